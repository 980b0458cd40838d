import PyProof.Rows.All
import Wide.All
import OpenK.AllK
import Wide.FinOn
import HandS.ForMost
import HandS.Exc
import HandS.TryOnly
import HandS.ExcOwn
import HandS.CallSlots
import HandS.Wide
import HandS.IsInst
import HandS.ExcValue
import HandS.ExcIs
import HandS.WordsExc
import HandS.Strs
import HandS.Deep
import KE.SortData
import KE.DataEq
import HandS.TupLe
import HandS.Style
import HandS.SortInts
import HandS.More
import HandS.EndBits
import HandS.SetFor
import HandS.Zip
import KE.DataCmp
import KE.GoesMore
import KE.GoesEnum
import HandS.Conv
import HandS.StrSplit
import KE.IntTextLaws
import HandS.DictTup
import PySem.Challenge.RW_evenlots_k46_whole_one_writing_each
set_option Elab.async false
set_option linter.all false
set_option maxRecDepth 100000
set_option maxHeartbeats 4000000
namespace Ev
open PySem PySem.Spec PyProof.Rows L2

inductive DKs where
  | k (l : List Key) | t (l : List (List Key))

inductive W where
  | dead | non
  | bl (b : Bool) | int (i : Int) | str (s : Str)
  | tup (ws : List W)
  | lst (m : Bool) (ws : List W)
  | scr (ws : List W)
  | nst (ws : List W)
  | ntp (ws : List W)
  | dct (m : Bool) (ks : DKs) (ws : List W)
  | ndc (ks : DKs) (ws : List W)
  | obj (c : Nat) (fs : List Str) (ws : List W)
  | exc (c : Nat)

structure Dn where
  K : PySem.W.Frag
  CA : Nat → Addr

def ExC (C a : Addr) : HO := .ext fun h => ∃ (oe : Obj) (vs : Array Value), h.get? a = some oe ∧ Zc (.ref C) none oe ∧ oe.data = .fields vs
def DR (H : Hp) (a : Addr) : DKs → List V → Prop
  | .k l, vs => l.length = vs.length ∧ H a = some (.dK (l.zip vs))
  | .t l, vs => l.length = vs.length ∧ H a = some (.dT (l.zip vs))
/-- a table that is locked -/
def LkR (G : Hp) (a : Addr) : DKs → List V → Prop
  | .k l, vs => l.length = vs.length ∧ ∃ o, G a = some (.frz o (.dK (l.zip vs)))
  | .t l, vs => l.length = vs.length ∧ ∃ o, G a = some (.frz o (.dT (l.zip vs)))
theorem LkR.mono {G G' : Hp} {a : Addr} (e : ∀ a o, G a = some o → G' a = some o) : ∀ {ks : DKs} {vs : List V}, LkR G a ks vs → LkR G' a ks vs
  | .k _, _, h => ⟨h.1, h.2.elim fun o q => ⟨o, e _ _ q⟩⟩
  | .t _, _, h => ⟨h.1, h.2.elim fun o q => ⟨o, e _ _ q⟩⟩
/-- no tuple of its own -/
def NT (o : HO) : Prop := ∀ vs, o ≠ .tup vs
/-- what a table's place holds -/
inductive IsDct : HO → Prop where
  | dk (t : List (Key × V)) : IsDct (.dK t)
  | dt (t : List (List Key × V)) : IsDct (.dT t)
theorem IsDct.nt {o : HO} (i : IsDct o) : NT o := fun _ z => by subst z; cases i
theorem DR.is {H : Hp} {a : Addr} : ∀ {ks : DKs} {vs : List V}, DR H a ks vs → ∃ o, H a = some o ∧ IsDct o
  | .k _, _, h => ⟨_, h.2, .dk _⟩
  | .t _, _, h => ⟨_, h.2, .dt _⟩

mutual
def RF (D : Dn) (G : Hp) : W → V → Prop
  | .non, v => v = .non
  | .bl b, v => v = .bl b
  | .int i, v => v = .int i
  | .str s, v => v = .str s
  | .tup ws, v => ∃ a vs, v = .ref a ∧ SqT D.K G a vs ∧ RFs D G ws vs
  | .lst false ws, v => ∃ a vs, v = .ref a ∧ G a = some (.lst vs) ∧ RFs D G ws vs
  | .scr ws, v => ∃ a vs, v = .ref a ∧ SqL D.K G a vs ∧ RFs D G ws vs
  | _, _ => False
def RFs (D : Dn) (G : Hp) : List W → List V → Prop
  | [], vs => vs = []
  | w :: ws, vs => ∃ v r, vs = v :: r ∧ RF D G w v ∧ RFs D G ws r
end

mutual
def RO (D : Dn) (G H : Hp) : W → V → List Addr → Prop
  | .dead, _, O => O = []
  | .lst true ws, v, O => ∃ a vs, v = .ref a ∧ O = [a] ∧ H a = some (.lst vs) ∧ RFs D G ws vs
  | .nst ws, v, O => ∃ a vs O', v = .ref a ∧ O = a :: O' ∧ H a = some (.lst vs) ∧ ROs D G H ws vs O'
  | .ntp ws, v, O => ∃ a vs, v = .ref a ∧ SqT D.K G a vs ∧ ROs D G H ws vs O
  | .dct true ks ws, v, O => ∃ a vs, v = .ref a ∧ O = [a] ∧ DR H a ks vs ∧ RFs D G ws vs
  | .dct false ks ws, v, O => O = [] ∧ ∃ a vs, v = .ref a ∧ LkR G a ks vs ∧ RFs D G ws vs
  | .ndc ks ws, v, O => ∃ a vs O', v = .ref a ∧ O = a :: O' ∧ DR H a ks vs ∧ ROs D G H ws vs O'
  | .obj c fs ws, v, O => ∃ a dx vs O', v = .ref a ∧ O = a :: O' ∧ fs.length = vs.length ∧ H a = some (.ins (D.CA c) dx (fs.zip vs)) ∧ ROs D G H ws vs O'
  | .exc c, v, O => O = [] ∧ ∃ a, v = .ref a ∧ G a = some (ExC (D.CA c) a)
  | w, v, O => O = [] ∧ RF D G w v
def ROs (D : Dn) (G H : Hp) : List W → List V → List Addr → Prop
  | [], vs, O => vs = [] ∧ O = []
  | w :: ws, vs, O => ∃ v r O1 O2, vs = v :: r ∧ O = O1 ++ O2 ∧ RO D G H w v O1 ∧ ROs D G H ws r O2
end

def W.frz : W → Bool
  | .dead => false
  | .lst m _ => !m
  | .nst _ => false
  | .ntp _ => false
  | .dct _ _ _ => false
  | .ndc _ _ => false
  | .obj _ _ _ => false
  | .exc _ => false
  | _ => true

/-- what was stands -/
def Sub (G G' : Hp) : Prop := ∀ a o, G a = some o → G' a = some o
theorem Sub.refl (G : Hp) : Sub G G := fun _ _ h => h
theorem Sub.trans {A B C : Hp} (h : Sub A B) (k : Sub B C) : Sub A C := fun a o e => k a o (h a o e)
theorem Sub.sqL {K : PySem.W.Frag} {G G' : Hp} {a : Addr} {xs : List V} (e : Sub G G') (h : SqL K G a xs) : SqL K G' a xs := Same.seq e h
theorem Sub.sqT {K : PySem.W.Frag} {G G' : Hp} {a : Addr} {xs : List V} (e : Sub G G') (h : SqT K G a xs) : SqT K G' a xs := by
  rcases h with (h | ⟨o, h⟩) | h
  · exact .inl (.inl (e _ _ h))
  · exact .inl (.inr ⟨o, e _ _ h⟩)
  · exact .inr h

mutual
theorem RF.mono {D : Dn} {G G' : Hp} (e : Sub G G') : ∀ (w : W) (v : V), RF D G w v → RF D G' w v
  | .non, _, h => h
  | .bl _, _, h => h
  | .int _, _, h => h
  | .str _, _, h => h
  | .tup ws, v, h => by
    obtain ⟨a, vs, rfl, h1, h2⟩ := h
    exact ⟨a, vs, rfl, e.sqT h1, RFs.mono e ws vs h2⟩
  | .lst false ws, v, h => by
    obtain ⟨a, vs, rfl, h1, h2⟩ := h
    exact ⟨a, vs, rfl, e _ _ h1, RFs.mono e ws vs h2⟩
  | .scr ws, v, h => by
    obtain ⟨a, vs, rfl, h1, h2⟩ := h
    exact ⟨a, vs, rfl, e.sqL h1, RFs.mono e ws vs h2⟩
  | .exc _, _, h => h
  | .dead, _, h => h
  | .lst true _, _, h => h
  | .nst _, _, h => h
  | .ntp _, _, h => h
  | .dct _ _ _, _, h => h
  | .ndc _ _, _, h => h
  | .obj _ _ _, _, h => h
theorem RFs.mono {D : Dn} {G G' : Hp} (e : Sub G G') : ∀ (ws : List W) (vs : List V), RFs D G ws vs → RFs D G' ws vs
  | [], _, h => h
  | w :: ws, _, h => by
    obtain ⟨v, r, rfl, h1, h2⟩ := h
    exact ⟨v, r, rfl, RF.mono e w v h1, RFs.mono e ws r h2⟩
end
theorem DR.keep {H H' : Hp} {a : Addr} (k : ∀ o, H a = some o → H' a = some o) : ∀ {ks : DKs} {vs : List V}, DR H a ks vs → DR H' a ks vs
  | .k _, _, h => ⟨h.1, k _ h.2⟩
  | .t _, _, h => ⟨h.1, k _ h.2⟩
mutual
theorem RO.mono {D : Dn} {G G' H H' : Hp} (e : Sub G G') : ∀ (w : W) (v : V) (O : List Addr), (∀ a ∈ O, ∀ o, H a = some o → H' a = some o) → RO D G H w v O → RO D G' H' w v O
  | .dead, _, _, _, h => h
  | .lst true ws, v, O, k, h => by
    obtain ⟨a, vs, rfl, rfl, h1, h2⟩ := h
    exact ⟨a, vs, rfl, rfl, k a List.mem_cons_self _ h1, RFs.mono e ws vs h2⟩
  | .nst ws, v, O, k, h => by
    obtain ⟨a, vs, O', rfl, rfl, h1, h2⟩ := h
    exact ⟨a, vs, O', rfl, rfl, k a List.mem_cons_self _ h1, ROs.mono e ws vs O' (fun b hb => k b (List.mem_cons_of_mem _ hb)) h2⟩
  | .ntp ws, v, O, k, h => by
    obtain ⟨a, vs, rfl, h1, h2⟩ := h
    exact ⟨a, vs, rfl, e.sqT h1, ROs.mono e ws vs O k h2⟩
  | .dct true ks ws, v, O, k, h => by
    obtain ⟨a, vs, rfl, rfl, h1, h2⟩ := h
    exact ⟨a, vs, rfl, rfl, h1.keep (k a List.mem_cons_self), RFs.mono e ws vs h2⟩
  | .ndc ks ws, v, O, k, h => by
    obtain ⟨a, vs, O', rfl, rfl, h1, h2⟩ := h
    exact ⟨a, vs, O', rfl, rfl, h1.keep (k a List.mem_cons_self), ROs.mono e ws vs O' (fun b hb => k b (List.mem_cons_of_mem _ hb)) h2⟩
  | .obj c fs ws, v, O, k, h => by
    obtain ⟨a, dx, vs, O', rfl, rfl, hl, h1, h2⟩ := h
    exact ⟨a, dx, vs, O', rfl, rfl, hl, k a List.mem_cons_self _ h1, ROs.mono e ws vs O' (fun b hb => k b (List.mem_cons_of_mem _ hb)) h2⟩
  | .non, _, _, _, h => ⟨h.1, RF.mono e _ _ h.2⟩
  | .bl _, _, _, _, h => ⟨h.1, RF.mono e _ _ h.2⟩
  | .int _, _, _, _, h => ⟨h.1, RF.mono e _ _ h.2⟩
  | .str _, _, _, _, h => ⟨h.1, RF.mono e _ _ h.2⟩
  | .tup _, _, _, _, h => ⟨h.1, RF.mono e _ _ h.2⟩
  | .lst false _, _, _, _, h => ⟨h.1, RF.mono e _ _ h.2⟩
  | .scr _, _, _, _, h => ⟨h.1, RF.mono e _ _ h.2⟩
  | .dct false ks ws, _, _, _, h => by
    obtain ⟨h0, a, vs, rfl, h1, h2⟩ := h
    exact ⟨h0, a, vs, rfl, h1.mono e, RFs.mono e ws vs h2⟩
  | .exc _, _, _, _, h => by
    obtain ⟨h0, a, rfl, h1⟩ := h
    exact ⟨h0, a, rfl, e _ _ h1⟩
theorem ROs.mono {D : Dn} {G G' H H' : Hp} (e : Sub G G') : ∀ (ws : List W) (vs : List V) (O : List Addr), (∀ a ∈ O, ∀ o, H a = some o → H' a = some o) → ROs D G H ws vs O → ROs D G' H' ws vs O
  | [], _, _, _, h => h
  | w :: ws, _, _, k, h => by
    obtain ⟨v, r, O1, O2, rfl, rfl, h1, h2⟩ := h
    exact ⟨v, r, O1, O2, rfl, rfl, RO.mono e w v O1 (fun b hb => k b (List.mem_append_left _ hb)) h1, ROs.mono e ws r O2 (fun b hb => k b (List.mem_append_right _ hb)) h2⟩
end
theorem RF.frz {D : Dn} {G : Hp} : ∀ {w : W} {v : V}, RF D G w v → w.frz = true
  | .non, _, _ => rfl
  | .bl _, _, _ => rfl
  | .int _, _, _ => rfl
  | .str _, _, _ => rfl
  | .tup _, _, _ => rfl
  | .lst false _, _, _ => rfl
  | .scr _, _, _ => rfl
theorem RO.ofF {D : Dn} {G H : Hp} : ∀ {w : W} {v : V}, RF D G w v → RO D G H w v []
  | .non, _, h => ⟨rfl, h⟩
  | .bl _, _, h => ⟨rfl, h⟩
  | .int _, _, h => ⟨rfl, h⟩
  | .str _, _, h => ⟨rfl, h⟩
  | .tup _, _, h => ⟨rfl, h⟩
  | .lst false _, _, h => ⟨rfl, h⟩
  | .scr _, _, h => ⟨rfl, h⟩
theorem RO.toF {D : Dn} {G H : Hp} : ∀ {w : W} {v : V} {O : List Addr}, RO D G H w v O → w.frz = true → O = [] ∧ RF D G w v
  | .non, _, _, h, _ => h
  | .bl _, _, _, h, _ => h
  | .int _, _, _, h, _ => h
  | .str _, _, _, h, _ => h
  | .tup _, _, _, h, _ => h
  | .lst false _, _, _, h, _ => h
  | .lst true _, _, _, _, e => nomatch e
  | .dct false _ _, _, _, _, e => nomatch e
  | .dct true _ _, _, _, _, e => nomatch e
  | .scr _, _, _, h, _ => h
  | .dead, _, _, _, e => nomatch e
  | .nst _, _, _, _, e => nomatch e
  | .ntp _, _, _, _, e => nomatch e
  | .ndc _ _, _, _, _, e => nomatch e
  | .obj _ _ _, _, _, _, e => nomatch e
  | .exc _, _, _, _, e => nomatch e
mutual
/-- what is owned stands, and is no tuple -/
theorem RO.thn {D : Dn} {G H : Hp} : ∀ (w : W) (v : V) (O : List Addr), RO D G H w v O → ∀ a ∈ O, ∃ o, H a = some o ∧ NT o
  | .dead, _, _, h, _, ha => by subst h; cases ha
  | .lst true ws, v, O, h, b, hb => by
    obtain ⟨a, vs, rfl, rfl, h1, h2⟩ := h
    rw [List.mem_singleton.mp hb]; exact ⟨_, h1, fun _ z => nomatch z⟩
  | .nst ws, v, O, h, b, hb => by
    obtain ⟨a, vs, O', rfl, rfl, h1, h2⟩ := h
    rcases List.mem_cons.mp hb with e | hb
    · rw [e]; exact ⟨_, h1, fun _ z => nomatch z⟩
    · exact ROs.thn ws vs O' h2 b hb
  | .ntp ws, v, O, h, b, hb => by
    obtain ⟨a, vs, rfl, h1, h2⟩ := h
    exact ROs.thn ws vs O h2 b hb
  | .dct true ks ws, v, O, h, b, hb => by
    obtain ⟨a, vs, rfl, rfl, h1, h2⟩ := h
    obtain ⟨o, e, i⟩ := h1.is
    rw [List.mem_singleton.mp hb]; exact ⟨o, e, i.nt⟩
  | .ndc ks ws, v, O, h, b, hb => by
    obtain ⟨a, vs, O', rfl, rfl, h1, h2⟩ := h
    rcases List.mem_cons.mp hb with e | hb
    · obtain ⟨o, e', i⟩ := h1.is
      rw [e]; exact ⟨o, e', i.nt⟩
    · exact ROs.thn ws vs O' h2 b hb
  | .obj c fs ws, v, O, h, b, hb => by
    obtain ⟨a, dx, vs, O', rfl, rfl, hl, h1, h2⟩ := h
    rcases List.mem_cons.mp hb with e | hb
    · rw [e]; exact ⟨_, h1, fun _ z => nomatch z⟩
    · exact ROs.thn ws vs O' h2 b hb
  | .non, _, _, h, _, ha => by rw [h.1] at ha; cases ha
  | .bl _, _, _, h, _, ha => by rw [h.1] at ha; cases ha
  | .int _, _, _, h, _, ha => by rw [h.1] at ha; cases ha
  | .str _, _, _, h, _, ha => by rw [h.1] at ha; cases ha
  | .tup _, _, _, h, _, ha => by rw [h.1] at ha; cases ha
  | .lst false _, _, _, h, _, ha => by rw [h.1] at ha; cases ha
  | .scr _, _, _, h, _, ha => by rw [h.1] at ha; cases ha
  | .dct false _ _, _, _, h, _, ha => by rw [h.1] at ha; cases ha
  | .exc _, _, _, h, _, ha => by rw [h.1] at ha; cases ha
theorem ROs.thn {D : Dn} {G H : Hp} : ∀ (ws : List W) (vs : List V) (O : List Addr), ROs D G H ws vs O → ∀ a ∈ O, ∃ o, H a = some o ∧ NT o
  | [], _, _, h, _, ha => by rw [h.2] at ha; cases ha
  | w :: ws, _, _, h, b, hb => by
    obtain ⟨v, r, O1, O2, rfl, rfl, h1, h2⟩ := h
    rcases List.mem_append.mp hb with hb | hb
    · exact RO.thn w v O1 h1 b hb
    · exact ROs.thn ws r O2 h2 b hb
end
theorem RO.there {D : Dn} {G H : Hp} (w : W) (v : V) (O : List Addr) (h : RO D G H w v O) : ∀ a ∈ O, H a ≠ none := fun a ha => by
  obtain ⟨o, e, _⟩ := RO.thn w v O h a ha
  rw [e]; exact fun z => nomatch z
theorem ROs.there {D : Dn} {G H : Hp} (ws : List W) (vs : List V) (O : List Addr) (h : ROs D G H ws vs O) : ∀ a ∈ O, H a ≠ none := fun a ha => by
  obtain ⟨o, e, _⟩ := ROs.thn ws vs O h a ha
  rw [e]; exact fun z => nomatch z
end Ev

namespace Ev
open PySem PySem.Spec L2

/-! ### outcomes -/
inductive Out (α : Type) where
  | ok (a : α) (env : List W)
  | ex (c : Nat) (env : List W)
  | bad
abbrev Sm (α : Type) := List W → Out α
def Sm.bind {α β : Type} (m : Sm α) (f : α → Sm β) : Sm β := fun e => match m e with
  | .ok a e' => f a e'
  | .ex c e' => .ex c e'
  | .bad => .bad
def Sm.ret {α : Type} (a : α) : Sm α := fun e => .ok a e
def lft {α : Type} (o : Option α) : Sm α := fun e => match o with
  | some a => .ok a e
  | none => .bad

/-! ### the state -/
structure Zt where
  X : Cx
  CA : Nat → Addr
  W : WX
  io : Nat → Bool
abbrev Zt.D (Z : Zt) : Dn := ⟨Z.X.K, Z.CA⟩

structure Step (G H : Hp) (O : List Addr) (G' H' : Hp) (O' : List Addr) : Prop where
  mono : Sub G G'
  keep : ∀ a o, H a = some o → a ∉ O → H' a = some o
  gnew : ∀ a o, H a = some o → a ∉ O → NT o → G a = none → G' a = none
  new : ∀ a ∈ O', a ∈ O ∨ H a = none
theorem Step.refl (G H : Hp) (O : List Addr) : Step G H O G H O := ⟨Sub.refl _, fun _ _ h _ => h, fun _ _ _ _ _ h => h, fun _ h => .inl h⟩
theorem Step.trans {G H G1 H1 G2 H2 : Hp} {O O1 O2 : List Addr} (a : Step G H O G1 H1 O1) (b : Step G1 H1 O1 G2 H2 O2) : Step G H O G2 H2 O2 := by
  have no : ∀ c o, H c = some o → c ∉ O → c ∉ O1 := fun c o h n z => (a.new c z).elim n fun e => by rw [h] at e; cases e
  refine ⟨a.mono.trans b.mono, fun c o h n => b.keep c o (a.keep c o h n) (no c o h n), fun c o h n nt g => b.gnew c o (a.keep c o h n) (no c o h n) nt (a.gnew c o h n nt g), fun c hc => ?_⟩
  rcases b.new c hc with z | z
  · exact a.new c z
  · by_cases hO : c ∈ O
    · exact .inl hO
    · refine .inr ?_
      cases q : H c with
      | none => rfl
      | some o => rw [a.keep c o q hO] at z; cases z
theorem Step.less {G H G' H' : Hp} {O O' O2 : List Addr} (a : Step G H O G' H' O') (h : ∀ x ∈ O2, x ∈ O') : Step G H O G' H' O2 := ⟨a.mono, a.keep, a.gnew, fun x hx => a.new x (h x hx)⟩
/-- more may be changed -/
theorem Step.more {G H G' H' : Hp} {O O' P : List Addr} (a : Step G H O G' H' O') : Step G H (P ++ O) G' H' (P ++ O') :=
  ⟨a.mono, fun c o h n => a.keep c o h fun z => n (List.mem_append_right _ z), fun c o h n => a.gnew c o h fun z => n (List.mem_append_right _ z), fun c hc => by
    rcases List.mem_append.mp hc with z | z
    · exact .inl (List.mem_append_left _ z)
    · exact (a.new c z).imp (List.mem_append_right _) id⟩
theorem Step.pure0 {G H G' H' : Hp} {O O' : List Addr} (a : Step G H [] G' H' O') : Step G H O G' H' (O ++ O') := by
  have h := a.more (P := O)
  rwa [List.append_nil] at h
/-- a frozen thing stands behind a pure step -/
theorem Step.sub0 {G H G' H' : Hp} {O' : List Addr} (a : Step G H [] G' H' O') : Sub H H' := fun b o h => a.keep b o h (fun z => nomatch z)

def SR (D : Dn) (G H : Hp) (w : W) (s : Option V) (O : List Addr) : Prop := (∃ v, s = some v ∧ RO D G H w v O) ∨ (w = .dead ∧ O = [])
def Sl (D : Dn) (G H : Hp) : List W → St → List (List Addr) → Prop
  | [], σ, Os => σ = [] ∧ Os = []
  | w :: env, σ, Os => ∃ s σ' O Os', σ = s :: σ' ∧ Os = O :: Os' ∧ SR D G H w s O ∧ Sl D G H env σ' Os'
theorem SR.mono {D : Dn} {G H G' H' : Hp} {w : W} {s : Option V} {O : List Addr} (e : Sub G G') (k : ∀ a ∈ O, ∀ o, H a = some o → H' a = some o) (h : SR D G H w s O) : SR D G' H' w s O := by
  rcases h with ⟨v, e1, h⟩ | h
  · exact .inl ⟨v, e1, RO.mono e w v O k h⟩
  · exact .inr h
theorem SR.there {D : Dn} {G H : Hp} {w : W} {s : Option V} {O : List Addr} (h : SR D G H w s O) : ∀ a ∈ O, H a ≠ none := by
  rcases h with ⟨v, e1, h⟩ | ⟨_, h⟩
  · exact RO.there w v O h
  · intro a ha; rw [h] at ha; cases ha
theorem Sl.mono {D : Dn} {G H G' H' : Hp} (e : Sub G G') : ∀ {env : List W} {σ : St} {Os : List (List Addr)}, (∀ a ∈ Os.flatten, ∀ o, H a = some o → H' a = some o) → Sl D G H env σ Os → Sl D G' H' env σ Os
  | [], _, _, _, h => h
  | w :: env, _, _, k, h => by
    obtain ⟨s, σ', O, Os', rfl, rfl, h1, h2⟩ := h
    exact ⟨s, σ', O, Os', rfl, rfl, h1.mono e fun a ha => k a (by rw [List.flatten_cons]; exact List.mem_append_left _ ha), Sl.mono e (fun a ha => k a (by rw [List.flatten_cons]; exact List.mem_append_right _ ha)) h2⟩
theorem Sl.there {D : Dn} {G H : Hp} : ∀ {env : List W} {σ : St} {Os : List (List Addr)}, Sl D G H env σ Os → ∀ a ∈ Os.flatten, H a ≠ none
  | [], _, _, h, a, ha => by rw [h.2] at ha; cases ha
  | w :: env, _, _, h, a, ha => by
    obtain ⟨s, σ', O, Os', rfl, rfl, h1, h2⟩ := h
    rw [List.flatten_cons] at ha
    rcases List.mem_append.mp ha with ha | ha
    · exact h1.there a ha
    · exact Sl.there h2 a ha
theorem Sl.len {D : Dn} {G H : Hp} : ∀ {env : List W} {σ : St} {Os : List (List Addr)}, Sl D G H env σ Os → env.length = σ.length ∧ Os.length = σ.length
  | [], _, _, h => by rw [h.1, h.2]; exact ⟨rfl, rfl⟩
  | w :: env, _, _, h => by
    obtain ⟨s, σ', O, Os', rfl, rfl, h1, h2⟩ := h
    obtain ⟨e1, e2⟩ := Sl.len h2
    simp [e1, e2]
theorem Sl.at {D : Dn} {G H : Hp} : ∀ {env : List W} {σ : St} {Os : List (List Addr)} {i : Nat} {w : W}, Sl D G H env σ Os → env[i]? = some w → ∃ s O, σ[i]? = some s ∧ Os[i]? = some O ∧ SR D G H w s O
  | [], _, _, _, _, _, e => by simp at e
  | w :: env, _, _, 0, _, h, e => by
    obtain ⟨s, σ', O, Os', rfl, rfl, h1, h2⟩ := h
    have := Option.some.inj e
    subst this
    exact ⟨s, O, rfl, rfl, h1⟩
  | w :: env, _, _, i + 1, _, h, e => by
    obtain ⟨s, σ', O, Os', rfl, rfl, h1, h2⟩ := h
    exact Sl.at (i := i) h2 e
theorem Sl.set {D : Dn} {G H : Hp} {w : W} {s : Option V} {O : List Addr} (r : SR D G H w s O) : ∀ {env : List W} {σ : St} {Os : List (List Addr)} (i : Nat), Sl D G H env σ Os → Sl D G H (env.set i w) (σ.set i s) (Os.set i O)
  | [], _, _, _, h => by rw [h.1, h.2]; exact ⟨rfl, rfl⟩
  | _ :: env, _, _, 0, h => by
    obtain ⟨s', σ', O', Os', rfl, rfl, h1, h2⟩ := h
    exact ⟨s, σ', O, Os', rfl, rfl, r, h2⟩
  | _ :: env, _, _, i + 1, h => by
    obtain ⟨s', σ', O', Os', rfl, rfl, h1, h2⟩ := h
    exact ⟨s', _, O', _, rfl, rfl, h1, Sl.set r i h2⟩

structure StOk (D : Dn) (G H : Hp) (env : List W) (σ : St) (Os : List (List Addr)) : Prop where
  sl : Sl D G H env σ Os
  sub : Sub G H
  gn : ∀ a ∈ Os.flatten, G a = none
  nd : Os.flatten.Nodup
theorem StOk.there {D : Dn} {G H : Hp} {env : List W} {σ : St} {Os : List (List Addr)} (s : StOk D G H env σ Os) : ∀ a ∈ Os.flatten, ∃ o, H a = some o := fun a ha => by
  cases q : H a with
  | none => exact absurd q (s.sl.there a ha)
  | some o => exact ⟨o, rfl⟩
theorem SR.thn {D : Dn} {G H : Hp} {w : W} {s : Option V} {O : List Addr} (h : SR D G H w s O) : ∀ a ∈ O, ∃ o, H a = some o ∧ NT o := by
  rcases h with ⟨v, e1, h⟩ | ⟨_, h⟩
  · exact RO.thn w v O h
  · intro a ha; rw [h] at ha; cases ha
theorem Sl.thn {D : Dn} {G H : Hp} : ∀ {env : List W} {σ : St} {Os : List (List Addr)}, Sl D G H env σ Os → ∀ a ∈ Os.flatten, ∃ o, H a = some o ∧ NT o
  | [], _, _, h, a, ha => by rw [h.2] at ha; cases ha
  | w :: env, _, _, h, a, ha => by
    obtain ⟨s, σ', O, Os', rfl, rfl, h1, h2⟩ := h
    rw [List.flatten_cons] at ha
    rcases List.mem_append.mp ha with ha | ha
    · exact h1.thn a ha
    · exact Sl.thn h2 a ha
theorem StOk.thn {D : Dn} {G H : Hp} {env : List W} {σ : St} {Os : List (List Addr)} (s : StOk D G H env σ Os) : ∀ a ∈ Os.flatten, ∃ o, H a = some o ∧ NT o := s.sl.thn
theorem StOk.step {D : Dn} {G H G' H' : Hp} {env : List W} {σ : St} {Os : List (List Addr)} {O' : List Addr} (s : StOk D G H env σ Os) (t : Step G H [] G' H' O') (sub : Sub G' H') : StOk D G' H' env σ Os :=
  ⟨s.sl.mono t.mono fun a _ o h => t.keep a o h (fun z => nomatch z), sub, fun a ha => by
    obtain ⟨o, ho, nt⟩ := s.thn a ha
    exact t.gnew a o ho (fun z => nomatch z) nt (s.gn a ha), s.nd⟩
theorem StOk.apart {D : Dn} {G H G' H' : Hp} {env : List W} {σ : St} {Os : List (List Addr)} {O' : List Addr} (s : StOk D G H env σ Os) (t : Step G H [] G' H' O') (n : O'.Nodup) : (Os.flatten ++ O').Nodup :=
  List.nodup_append.mpr ⟨s.nd, n, fun a ha b hb e => by
    subst e
    obtain ⟨o, ho⟩ := s.there a ha
    rcases t.new a hb with z | z
    · cases z
    · rw [ho] at z; cases z⟩

/-- what an expression did: p: it changed nothing; else what the frame owns may be changed -/
def Stp (p : Bool) (env : List W) (G H : Hp) (Os : List (List Addr)) (env' : List W) (G' H' : Hp) (Os' : List (List Addr)) (Ow : List Addr) : Prop := match p with
  | true => env' = env ∧ Os' = Os ∧ Step G H [] G' H' Ow
  | false => Step G H Os.flatten G' H' (Os'.flatten ++ Ow)
theorem Stp.gen {p : Bool} {env env' : List W} {G H G' H' : Hp} {Os Os' : List (List Addr)} {Ow : List Addr} (h : Stp p env G H Os env' G' H' Os' Ow) : Step G H Os.flatten G' H' (Os'.flatten ++ Ow) := by
  cases p with
  | true => obtain ⟨rfl, rfl, h⟩ := h; exact h.pure0
  | false => exact h
theorem Stp.less {p : Bool} {env env' : List W} {G H G' H' : Hp} {Os Os' : List (List Addr)} {Ow O2 : List Addr} (h : Stp p env G H Os env' G' H' Os' Ow) (k : ∀ x ∈ O2, x ∈ Ow) : Stp p env G H Os env' G' H' Os' O2 := by
  cases p with
  | true => obtain ⟨e1, e2, h⟩ := h; exact ⟨e1, e2, h.less k⟩
  | false => exact Step.less h fun x hx => (List.mem_append.mp hx).elim (List.mem_append_left _) fun z => List.mem_append_right _ (k x z)
theorem Step.dropMid {G H G1 H1 G2 H2 : Hp} {O1 O2 : List Addr} (a : Step G H [] G1 H1 O1) (b : Step G1 H1 [] G2 H2 O2) : Step G H [] G2 H2 O2 := by
  have z := a.less (O2 := []) (fun x hx => nomatch hx)
  exact z.trans b
theorem Stp.trans {p q : Bool} {env env1 env2 : List W} {G H G1 H1 G2 H2 : Hp} {Os Os1 Os2 : List (List Addr)} {O1 O2 : List Addr} (a : Stp p env G H Os env1 G1 H1 Os1 O1) (b : Stp q env1 G1 H1 Os1 env2 G2 H2 Os2 O2) : Stp (p && q) env G H Os env2 G2 H2 Os2 O2 := by
  cases p with
  | true =>
    cases q with
    | true =>
      obtain ⟨rfl, rfl, a⟩ := a
      obtain ⟨rfl, rfl, b⟩ := b
      exact ⟨rfl, rfl, a.dropMid b⟩
    | false =>
      have a' := a.gen
      exact (a'.less (O2 := Os1.flatten) fun x hx => List.mem_append_left _ hx).trans b
  | false =>
    have a' : Step G H Os.flatten G1 H1 (Os1.flatten ++ O1) := a
    exact (a'.less (O2 := Os1.flatten) fun x hx => List.mem_append_left _ hx).trans b.gen
theorem Stp.and {p : Bool} (q : Bool) {env env' : List W} {G H G' H' : Hp} {Os Os' : List (List Addr)} {Ow : List Addr} (h : Stp p env G H Os env' G' H' Os' Ow) : Stp (p && q) env G H Os env' G' H' Os' Ow := by
  cases p with
  | true => cases q with
    | true => exact h
    | false => exact h.gen
  | false => exact h
theorem Stp.id (p : Bool) {env : List W} {G H : Hp} {Os : List (List Addr)} : Stp p env G H Os env G H Os [] := by
  cases p with
  | true => exact ⟨rfl, rfl, Step.refl _ _ _⟩
  | false => show Step G H Os.flatten G H (Os.flatten ++ []); rw [List.append_nil]; exact Step.refl _ _ _
theorem Stp.grow (p : Bool) {env : List W} {G H G' H' : Hp} {Os : List (List Addr)} {Ow : List Addr} (t : Step G H [] G' H' Ow) : Stp p env G H Os env G' H' Os Ow := by
  cases p with
  | true => exact ⟨rfl, rfl, t⟩
  | false => exact t.pure0

/-- whose the answer is: new and its holder's, or seen at its place -/
def OwnK (k : Bool) (Os : List (List Addr)) (Ow : List Addr) (G : Hp) : Prop := match k with
  | true => (Os.flatten ++ Ow).Nodup ∧ ∀ a ∈ Ow, G a = none
  | false => ∀ a ∈ Ow, a ∈ Os.flatten
theorem OwnK.nil {k : Bool} {D : Dn} {G H : Hp} {env : List W} {σ : St} {Os : List (List Addr)} (s : StOk D G H env σ Os) : OwnK k Os [] G := by
  cases k with
  | true => exact ⟨by rw [List.append_nil]; exact s.nd, fun _ z => nomatch z⟩
  | false => exact fun _ z => nomatch z
def kO (k : Bool) (O : List Addr) : List Addr := match k with
  | true => O
  | false => []

def TX (D : Dn) (Wx : WX) (p k : Bool) (m : Sm W) : TE := fun σ H Q => ∃ (env : List W) (G : Hp) (Os : List (List Addr)), StOk D G H env σ Os ∧ match m env with
  | .ok w env' => ∀ v G' H' Os' Ow, StOk D G' H' env' σ Os' → RO D G' H' w v Ow → OwnK k Os' Ow G' → Stp p env G H Os env' G' H' Os' (kO k Ow) → Q v H'
  | .ex c env' => ∀ G' H' Os', StOk D G' H' env' σ Os' → Stp p env G H Os env' G' H' Os' [] → Wx (.ref (D.CA c)) none σ H'
  | .bad => False
abbrev ME (Z : Zt) (e : Expr) (m : Sm W) (p k : Bool) : Prop := PE Z.X e (TX Z.D Z.W p k m)
theorem pe_imp {X : Cx} {e : Expr} {t t' : TE} (h : PE X e t) (i : ∀ σ H Q, t' σ H Q → t σ H Q) : PE X e t' := ⟨fun pins s σ H Q I w => h.run pins s σ H Q I (i σ H Q w)⟩

/-- what was told ahead stands behind the next expression -/
theorem stay {D : Dn} {k p : Bool} {w : W} {v : V} {env env' : List W} {σ : St} {G H G' H' : Hp} {Os Os' : List (List Addr)} {Ow O2 : List Addr} (s : StOk D G H env σ Os) (r : RO D G H w v Ow) (o : OwnK k Os Ow G) (t : Stp p env G H Os env' G' H' Os' O2)
    (g : (k || p || w.frz) = true) : RO D G' H' w v Ow := by
  by_cases hf : w.frz = true
  · obtain ⟨rfl, f⟩ := r.toF hf
    exact RO.ofF (RF.mono t.gen.mono _ _ f)
  · refine RO.mono t.gen.mono w v Ow (fun a ha x hx => ?_) r
    cases p with
    | true => exact t.2.2.keep a x hx (fun z => nomatch z)
    | false =>
      cases k with
      | false =>
        rw [Bool.or_self, Bool.false_or] at g
        exact absurd g hf
      | true =>
        refine t.gen.keep a x hx fun z => ?_
        exact (List.nodup_append.mp o.1).2.2 a z a ha rfl

/-! ### operators by values -/
def mBin (f : W → W → Option W) (g : Bool) (m1 m2 : Sm W) : Sm W := Sm.bind m1 fun w1 => Sm.bind m2 fun w2 => if (g || w1.frz) = true then lft (f w1 w2) else fun _ => .bad
/-- the answer of a rule by values -/
def Ans (D : Dn) (G H : Hp) (w : W) (Q : VK) : Prop := ∀ v G' H' Ow, Sub G' H' → RO D G' H' w v Ow → Ow.Nodup → (∀ a ∈ Ow, G' a = none) → Step G H [] G' H' Ow → Q v H'
/-- a rule by values does what f says -/
def RelS (D : Dn) (r : R2) (f : W → W → Option W) : Prop := ∀ (G H : Hp) (w1 w2 : W) (v1 v2 : V) (O1 O2 : List Addr) (w : W) (Q : VK), Sub G H → RO D G H w1 v1 O1 → RO D G H w2 v2 O2 → f w1 w2 = some w → Ans D G H w Q → r v1 v2 H Q
def rAny (X : Cx) (h : Value → Value → PySem.Sem Value) : R2 := fun x y H Q => ∃ r : R2, OpR X h r ∧ r x y H Q
theorem op_any {X : Cx} {h : Value → Value → PySem.Sem Value} : OpR X h (rAny X h) := fun pins s σ H x y v u Q I rx ry ⟨r, ho, q⟩ => ho pins s σ H x y v u Q I rx ry q
abbrev OpS (Z : Zt) (h : Value → Value → PySem.Sem Value) (f : W → W → Option W) : Prop := RelS Z.D (rAny Z.X h) f

/-- from a rule's answer to the expression's -/
theorem Ans.of {D : Dn} {p : Bool} {env env2 : List W} {σ : St} {G H G2 H2 : Hp} {Os Os2 : List (List Addr)} {O2 : List Addr} {w : W} {Q : VK} (s2 : StOk D G2 H2 env2 σ Os2) (t : Stp p env G H Os env2 G2 H2 Os2 O2)
    (h : ∀ v G' H' Os' Ow, StOk D G' H' env2 σ Os' → RO D G' H' w v Ow → OwnK true Os' Ow G' → Stp p env G H Os env2 G' H' Os' Ow → Q v H') : Ans D G2 H2 w Q := fun v G' H' Ow sub r nd gn st => by
  refine h v G' H' Os2 Ow (s2.step st sub) r ⟨s2.apart st nd, gn⟩ ?_
  have z := t.trans (Stp.grow true (env := env2) (Os := Os2) st)
  rwa [Bool.and_true] at z
theorem Ans.int {D : Dn} {G H : Hp} {i : Int} {Q : VK} (s : Sub G H) (h : Ans D G H (.int i) Q) : Q (.int i) H := h _ G H [] s ⟨rfl, rfl⟩ List.nodup_nil (fun _ z => nomatch z) (Step.refl _ _ _)
theorem Ans.bl {D : Dn} {G H : Hp} {i : Bool} {Q : VK} (s : Sub G H) (h : Ans D G H (.bl i) Q) : Q (.bl i) H := h _ G H [] s ⟨rfl, rfl⟩ List.nodup_nil (fun _ z => nomatch z) (Step.refl _ _ _)
theorem Ans.str {D : Dn} {G H : Hp} {i : Str} {Q : VK} (s : Sub G H) (h : Ans D G H (.str i) Q) : Q (.str i) H := h _ G H [] s ⟨rfl, rfl⟩ List.nodup_nil (fun _ z => nomatch z) (Step.refl _ _ _)
theorem Ans.non {D : Dn} {G H : Hp} {Q : VK} (s : Sub G H) (h : Ans D G H .non Q) : Q .non H := h _ G H [] s ⟨rfl, rfl⟩ List.nodup_nil (fun _ z => nomatch z) (Step.refl _ _ _)
/-- a frozen thing as it stands -/
theorem Ans.fro {D : Dn} {G H : Hp} {w : W} {v : V} {Q : VK} (s : Sub G H) (r : RF D G w v) (h : Ans D G H w Q) : Q v H := h _ G H [] s (RO.ofF r) List.nodup_nil (fun _ z => nomatch z) (Step.refl _ _ _)

theorem tx_bin {D : Dn} {Wx : WX} {r : R2} {f : W → W → Option W} {m1 m2 : Sm W} {p1 p2 k1 k2 : Bool} (o : RelS D r f) {σ : St} {H : Hp} {Q : VK} (hq : TX D Wx (p1 && p2) true (mBin f (k1 || p2) m1 m2) σ H Q) :
    tOp r (TX D Wx p1 k1 m1) (TX D Wx p2 k2 m2) σ H Q := by
  obtain ⟨env, G, Os, s, hq⟩ := hq
  refine ⟨env, G, Os, s, ?_⟩
  unfold mBin Sm.bind at hq
  cases e1 : m1 env with
  | bad => rw [e1] at hq; exact hq
  | ex c env1 =>
    rw [e1] at hq
    intro G' H' Os' s' t
    exact hq G' H' Os' s' (t.and p2)
  | ok w1 env1 =>
    rw [e1] at hq
    intro v1 G1 H1 Os1 O1 s1 r1 o1 t1
    refine ⟨env1, G1, Os1, s1, ?_⟩
    cases e2 : m2 env1 with
    | bad => simp only [e2] at hq
    | ex c env2 =>
      simp only [e2] at hq
      intro G' H' Os' s' t
      exact hq G' H' Os' s' (t1.trans t)
    | ok w2 env2 =>
      simp only [e2] at hq
      intro v2 G2 H2 Os2 O2 s2 r2 o2 t2
      by_cases hg : (k1 || p2 || w1.frz) = true
      · rw [if_pos hg] at hq
        unfold lft at hq
        cases ef : f w1 w2 with
        | none => rw [ef] at hq; exact hq.elim
        | some w =>
          rw [ef] at hq
          have r1' := stay s1 r1 o1 t2 hg
          exact o G2 H2 w1 w2 v1 v2 O1 O2 w Q s2.sub r1' r2 ef (Ans.of (p := p1 && p2) s2 (t1.trans t2) hq)
      · rw [if_neg hg] at hq
        exact hq.elim
theorem me_op {Z : Zt} {op : Operator} {f : W → W → Option W} {a b : Expr} {m1 m2 : Sm W} {p1 p2 k1 k2 : Bool} {pos : Pos} (o : OpS Z (binaryOp op) f) (ha : ME Z a m1 p1 k1) (hb : ME Z b m2 p2 k2) : ME Z (.BinOp a op b pos) (mBin f (k1 || p2) m1 m2) (p1 && p2) true :=
  pe_imp (pe_op op_any ha hb) fun _ _ _ h => tx_bin o h
theorem me_cmp {Z : Zt} {op : CmpOp} {f : W → W → Option W} {a b : Expr} {m1 m2 : Sm W} {p1 p2 k1 k2 : Bool} {pos : Pos} (o : OpS Z (compareOp op) f) (ha : ME Z a m1 p1 k1) (hb : ME Z b m2 p2 k2) (hm : behindInMarks op b = false := by first | exact nomark _ | rfl) :
    ME Z (.Compare a [op] [b] pos) (mBin f (k1 || p2) m1 m2) (p1 && p2) true :=
  pe_imp (pe_cmpR op_any ha hb hm) fun _ _ _ h => tx_bin o h
end Ev

namespace Ev
open PySem PySem.Spec L2

/-! ### names, constants -/
def mC (w : W) : Sm W := Sm.ret w
def mVar (i : Nat) : Sm W := fun env => match env[i]? with
  | some .dead => .bad
  | some w => .ok w env
  | none => .bad
def mMove (i : Nat) : Sm W := fun env => match env[i]? with
  | some .dead => .bad
  | some w => .ok w (env.set i .dead)
  | none => .bad
section
variable {Z : Zt} {pos : Pos}
theorem me_c {e : Expr} {v : V} {w : W} (h : PE Z.X e (tC v)) (r : ∀ G : Hp, RF Z.D G w v) : ME Z e (mC w) true true := pe_imp h fun σ H Q q => by
  obtain ⟨env, G, Os, s, q⟩ := q
  exact q v G H Os [] s (RO.ofF (r G)) (OwnK.nil s) (Stp.id true)
theorem me_int {i : Int} {j : Nat} : ME Z (.Constant (.int i) j pos) (mC (.int i)) true true := me_c pe_int fun _ => rfl
theorem me_bl {b : Bool} {j : Nat} : ME Z (.Constant (.bool b) j pos) (mC (.bl b)) true true := me_c pe_bl fun _ => rfl
theorem me_non {j : Nat} : ME Z (.Constant .none j pos) (mC .non) true true := me_c pe_non fun _ => rfl
theorem me_str {x : Str} {j : Nat} : ME Z (.Constant (.str x) j pos) (mC (.str x)) true true := me_c pe_str fun _ => rfl
theorem me_globS {x y : Str} {t : Tok} (hg : Gl Z.X x) (hm : Z.X.mg x = some (.str y t)) (hd : (x == ("__debug__" : Str)) = false := by decide) : ME Z (.Name x pos) (mC (.str y)) true true := me_c (v := .str y) (pe_glob hg hm ⟨t, rfl⟩ hd) fun _ => rfl
theorem me_globI {x : Str} {y : Int} {t : Tok} (hg : Gl Z.X x) (hm : Z.X.mg x = some (.int y t)) (hd : (x == ("__debug__" : Str)) = false := by decide) : ME Z (.Name x pos) (mC (.int y)) true true := me_c (v := .int y) (pe_glob hg hm ⟨t, rfl⟩ hd) fun _ => rfl
theorem me_var {e : Expr} (i : Nat) (h : PE Z.X e (tVar i)) : ME Z e (mVar i) true false := pe_imp h fun σ H Q q => by
  obtain ⟨env, G, Os, s, q⟩ := q
  unfold mVar at q
  cases e : env[i]? with
  | none => rw [e] at q; exact q.elim
  | some w =>
    obtain ⟨sv, O, h1, h2, h3⟩ := s.sl.at e
    rcases h3 with ⟨v, rfl, r⟩ | ⟨rfl, _⟩
    · refine ⟨v, h1, ?_⟩
      have hw : ∀ (w' : W), w' = w → match w' with | .dead => True | _ => Q v H := fun w' e' => by
        subst e'
        cases w' <;> first
          | trivial
          | (rw [e] at q; exact q v G H Os O s r (fun a ha => List.mem_flatten.mpr ⟨O, List.mem_of_getElem? h2, ha⟩) ⟨rfl, rfl, Step.refl _ _ _⟩)
      cases w <;> first
        | (rw [e] at q; exact q.elim)
        | exact hw _ rfl
    · rw [e] at q; exact q.elim
theorem flat_set : ∀ {Os : List (List Addr)} {i : Nat} {O O' : List Addr}, Os[i]? = some O → ((Os.set i O').flatten ++ O).Perm (Os.flatten ++ O')
  | [], _, _, _, h => by simp at h
  | P :: Os, 0, O, O', h => by
    have e : P = O := Option.some.inj h
    subst e
    show (O' ++ Os.flatten ++ P).Perm (P ++ Os.flatten ++ O')
    have h1 : (O' ++ Os.flatten ++ P).Perm (P ++ (O' ++ Os.flatten)) := List.perm_append_comm
    have h2 : (P ++ (O' ++ Os.flatten)).Perm (P ++ (Os.flatten ++ O')) := List.Perm.append_left _ List.perm_append_comm
    rw [List.append_assoc P]
    exact h1.trans h2
  | P :: Os, i + 1, O, O', h => by
    have ih := flat_set (Os := Os) (i := i) (O' := O') h
    show (P ++ (Os.set i O').flatten ++ O).Perm (P ++ Os.flatten ++ O')
    rw [List.append_assoc, List.append_assoc]
    exact List.Perm.append_left _ ih
theorem set_self {α : Type} : ∀ {l : List α} {i : Nat} {x : α}, l[i]? = some x → l.set i x = l
  | [], _, _, _ => rfl
  | _ :: _, 0, _, h => by rw [List.set_cons_zero]; rw [Option.some.inj h]
  | _ :: r, i + 1, _, h => by rw [List.set_cons_succ, set_self (l := r) h]
theorem me_move {e : Expr} (i : Nat) (h : PE Z.X e (tVar i)) (hio : Z.io i = false) : ME Z e (mMove i) false true := pe_imp h fun σ H Q q => by
  obtain ⟨env, G, Os, s, q⟩ := q
  unfold mMove at q
  cases e : env[i]? with
  | none => rw [e] at q; exact q.elim
  | some w =>
    obtain ⟨sv, O, h1, h2, h3⟩ := s.sl.at e
    rcases h3 with ⟨v, rfl, r⟩ | ⟨rfl, _⟩
    · refine ⟨v, h1, ?_⟩
      have pm := flat_set (O' := []) h2
      rw [List.append_nil] at pm
      have nd : ((Os.set i []).flatten ++ O).Nodup := pm.nodup_iff.mpr s.nd
      have s' : StOk Z.D G H (env.set i .dead) σ (Os.set i []) := by
        have z := Sl.set (D := Z.D) (G := G) (H := H) (w := .dead) (s := some v) (O := []) (.inr ⟨rfl, rfl⟩) i s.sl
        rw [set_self h1] at z
        exact ⟨z, s.sub, fun a ha => s.gn a (pm.mem_iff.mp (List.mem_append_left _ ha)), (List.nodup_append.mp nd).1⟩
      have fin : (∀ v G' H' Os' Ow, StOk Z.D G' H' (env.set i .dead) σ Os' → RO Z.D G' H' w v Ow → OwnK true Os' Ow G' → Stp false env G H Os (env.set i .dead) G' H' Os' Ow → Q v H') → Q v H := fun f =>
        f v G H (Os.set i []) O s' r ⟨nd, fun a ha => s.gn a (pm.mem_iff.mp (List.mem_append_right _ ha))⟩ ⟨Sub.refl _, fun _ _ h _ => h, fun _ _ _ _ _ h => h, fun a ha => .inl (pm.mem_iff.mp ha)⟩
      cases w <;> (rw [e] at q; first | exact q.elim | exact fin q)
    · rw [e] at q; exact q.elim
end

/-! ### one operand -/
def mUn (f : W → Option W) (m : Sm W) : Sm W := Sm.bind m fun w => lft (f w)
def RelU (D : Dn) (r : V → Hp → VK → Prop) (f : W → Option W) : Prop := ∀ (G H : Hp) (w1 : W) (v1 : V) (O1 : List Addr) (w : W) (Q : VK), Sub G H → RO D G H w1 v1 O1 → f w1 = some w → Ans D G H w Q → r v1 H Q
theorem tx_un {D : Dn} {Wx : WX} {r : V → Hp → VK → Prop} {f : W → Option W} {m : Sm W} {p k : Bool} (o : RelU D r f) {σ : St} {H : Hp} {Q : VK} (hq : TX D Wx p true (mUn f m) σ H Q) :
    TX D Wx p k m σ H fun x H1 => r x H1 Q := by
  obtain ⟨env, G, Os, s, hq⟩ := hq
  refine ⟨env, G, Os, s, ?_⟩
  unfold mUn Sm.bind at hq
  cases e1 : m env with
  | bad => rw [e1] at hq; exact hq
  | ex c env1 =>
    rw [e1] at hq
    exact hq
  | ok w1 env1 =>
    rw [e1] at hq
    intro v1 G1 H1 Os1 O1 s1 r1 o1 t1
    unfold lft at hq
    cases ef : f w1 with
    | none => simp only [ef] at hq
    | some w =>
      simp only [ef] at hq
      refine o G1 H1 w1 v1 O1 w Q s1.sub r1 ef fun v G' H' Ow sub r nd gn st => ?_
      refine hq v G' H' Os1 Ow (s1.step st sub) r ⟨s1.apart st nd, gn⟩ ?_
      have z := t1.trans (Stp.grow true (env := env1) (Os := Os1) st)
      rwa [Bool.and_true] at z
def uAny (X : Cx) (h : Value → PySem.Sem Value) : V → Hp → VK → Prop := fun x H Q => ∃ r, UnR X h r ∧ r x H Q
theorem un_any {X : Cx} {h : Value → PySem.Sem Value} : UnR X h (uAny X h) := fun pins s σ H x v Q I rx ⟨r, ho, q⟩ => ho pins s σ H x v Q I rx q
theorem me_un {Z : Zt} {op : UnaryOp} {f : W → Option W} {a : Expr} {m : Sm W} {p k : Bool} {pos : Pos} (o : RelU Z.D (uAny Z.X (unaryOp op)) f) (ha : ME Z a m p k) : ME Z (.UnaryOp op a pos) (mUn f m) p true :=
  pe_imp (pe_un un_any ha) fun _ _ _ h => tx_un o h
def negW : W → Option W
  | .int i => some (.int (-i))
  | _ => none
theorem me_neg {Z : Zt} {a : Expr} {m : Sm W} {p k : Bool} {pos : Pos} (ha : ME Z a m p k) : ME Z (.UnaryOp .USub a pos) (mUn negW m) p true := me_un (fun G H w1 v1 O1 w Q s r e q => by
  cases w1 with
  | int i =>
    cases e
    obtain ⟨_, rfl⟩ := r
    exact ⟨_, un_neg, i, rfl, q.int s⟩
  | _ => cases e) ha

/-! ### tests -/
def TT' (D : Dn) (Wx : WX) (p : Bool) (m : Sm Bool) : TT := fun σ H Q => ∃ (env : List W) (G : Hp) (Os : List (List Addr)), StOk D G H env σ Os ∧ match m env with
  | .ok b env' => ∀ G' H' Os', StOk D G' H' env' σ Os' → Stp p env G H Os env' G' H' Os' [] → Q b H'
  | .ex c env' => ∀ G' H' Os', StOk D G' H' env' σ Os' → Stp p env G H Os env' G' H' Os' [] → Wx (.ref (D.CA c)) none σ H'
  | .bad => False
abbrev MT (Z : Zt) (e : Expr) (m : Sm Bool) (p : Bool) : Prop := PT Z.X e (TT' Z.D Z.W p m)
abbrev MW (Z : Zt) (e : Expr) (m : Sm Bool) (p : Bool) : Prop := PW Z.X e (TT' Z.D Z.W p m)
theorem pt_imp {X : Cx} {e : Expr} {t t' : TT} (h : PT X e t) (i : ∀ σ H Q, t' σ H Q → t σ H Q) : PT X e t' := ⟨fun pins s σ H Q I w => h.run pins s σ H Q I (i σ H Q w)⟩
theorem pw_imp {X : Cx} {e : Expr} {t t' : TT} (h : PW X e t) (i : ∀ σ H Q, t' σ H Q → t σ H Q) : PW X e t' := ⟨fun wh pins s σ H Q I w => h.run wh pins s σ H Q I (i σ H Q w)⟩
def blW : W → Option Bool
  | .bl b => some b
  | _ => none
def toB (m : Sm W) : Sm Bool := Sm.bind m fun w => lft (blW w)
def ofB (m : Sm Bool) : Sm W := Sm.bind m fun b => Sm.ret (.bl b)
def mAnd (m1 m2 : Sm Bool) : Sm Bool := Sm.bind m1 fun b => if b = true then m2 else Sm.ret false
def mOr (m1 m2 : Sm Bool) : Sm Bool := Sm.bind m1 fun b => if b = true then Sm.ret true else m2
def mNot (m : Sm Bool) : Sm Bool := Sm.bind m fun b => Sm.ret (!b)
theorem tt_val {D : Dn} {Wx : WX} {p k : Bool} {m : Sm W} {σ : St} {H : Hp} {Q : Bool → Hp → Prop} (h : TT' D Wx p (toB m) σ H Q) : TX D Wx p k m σ H fun x H1 => ∃ c, x = .bl c ∧ Q c H1 := by
  obtain ⟨env, G, Os, s, q⟩ := h
  refine ⟨env, G, Os, s, ?_⟩
  unfold toB Sm.bind lft at q
  cases e1 : m env with
  | bad => rw [e1] at q; exact q
  | ex c env1 => rw [e1] at q; exact q
  | ok w env1 =>
    rw [e1] at q
    intro v G' H' Os' Ow s' r o t
    cases w with
    | bl b =>
      obtain ⟨rfl, rfl⟩ := r
      refine ⟨b, rfl, q G' H' Os' s' ?_⟩
      cases k <;> exact t
    | _ => exact q.elim
theorem mt_val {Z : Zt} {e : Expr} {m : Sm W} {p k : Bool} (h : ME Z e m p k) (he : ∀ whole, isTrue e Z.X.env whole = (do let v ← whole; standAt e.pos; holding [v] (truthy v)) := by intro _; rfl) : MT Z e (toB m) p :=
  pt_imp (pt_val h he) fun _ _ _ q => tt_val q
theorem tt_and {D : Dn} {Wx : WX} {p1 p2 : Bool} {m1 m2 : Sm Bool} {σ : St} {H : Hp} {Q : Bool → Hp → Prop} (h : TT' D Wx (p1 && p2) (mAnd m1 m2) σ H Q) : tAnd (TT' D Wx p1 m1) (TT' D Wx p2 m2) σ H Q := by
  obtain ⟨env, G, Os, s, q⟩ := h
  refine ⟨env, G, Os, s, ?_⟩
  unfold mAnd Sm.bind at q
  cases e1 : m1 env with
  | bad => rw [e1] at q; exact q
  | ex c env1 =>
    rw [e1] at q
    exact fun G' H' Os' s' t => q G' H' Os' s' (t.and p2)
  | ok b env1 =>
    rw [e1] at q
    intro G1 H1 Os1 s1 t1
    cases b with
    | false => exact (if_neg Bool.false_ne_true).mpr (q G1 H1 Os1 s1 (t1.and p2))
    | true =>
      rw [if_pos rfl]
      refine ⟨env1, G1, Os1, s1, ?_⟩
      simp only [if_true] at q
      cases e2 : m2 env1 with
      | bad => simp only [e2] at q
      | ex c env2 =>
        simp only [e2] at q
        exact fun G' H' Os' s' t => q G' H' Os' s' (t1.trans t)
      | ok b2 env2 =>
        simp only [e2] at q
        exact fun G' H' Os' s' t => q G' H' Os' s' (t1.trans t)
theorem tt_or {D : Dn} {Wx : WX} {p1 p2 : Bool} {m1 m2 : Sm Bool} {σ : St} {H : Hp} {Q : Bool → Hp → Prop} (h : TT' D Wx (p1 && p2) (mOr m1 m2) σ H Q) : tOr (TT' D Wx p1 m1) (TT' D Wx p2 m2) σ H Q := by
  obtain ⟨env, G, Os, s, q⟩ := h
  refine ⟨env, G, Os, s, ?_⟩
  unfold mOr Sm.bind at q
  cases e1 : m1 env with
  | bad => rw [e1] at q; exact q
  | ex c env1 =>
    rw [e1] at q
    exact fun G' H' Os' s' t => q G' H' Os' s' (t.and p2)
  | ok b env1 =>
    rw [e1] at q
    intro G1 H1 Os1 s1 t1
    cases b with
    | true => exact (if_pos rfl).mpr (q G1 H1 Os1 s1 (t1.and p2))
    | false =>
      rw [if_neg Bool.false_ne_true]
      refine ⟨env1, G1, Os1, s1, ?_⟩
      simp only [Bool.false_eq_true, if_false] at q
      cases e2 : m2 env1 with
      | bad => simp only [e2] at q
      | ex c env2 =>
        simp only [e2] at q
        exact fun G' H' Os' s' t => q G' H' Os' s' (t1.trans t)
      | ok b2 env2 =>
        simp only [e2] at q
        exact fun G' H' Os' s' t => q G' H' Os' s' (t1.trans t)
theorem tt_not {D : Dn} {Wx : WX} {p : Bool} {m : Sm Bool} {σ : St} {H : Hp} {Q : Bool → Hp → Prop} (h : TT' D Wx p (mNot m) σ H Q) : tNot (TT' D Wx p m) σ H Q := by
  obtain ⟨env, G, Os, s, q⟩ := h
  refine ⟨env, G, Os, s, ?_⟩
  unfold mNot Sm.bind at q
  cases e1 : m env with
  | bad => rw [e1] at q; exact q
  | ex c env1 => rw [e1] at q; exact q
  | ok b env1 => rw [e1] at q; exact q
section
variable {Z : Zt} {a b : Expr} {rest : List Expr} {m m1 m2 : Sm Bool} {p p1 p2 : Bool} {pos : Pos}
theorem mw_and1 (h : MT Z a m p) : MW Z (.BoolOp .And [a] pos) m p := pw_and1 h
theorem mw_or1 (h : MT Z a m p) : MW Z (.BoolOp .Or [a] pos) m p := pw_or1 h
theorem mw_and (h1 : MT Z a m1 p1) (h2 : MW Z (.BoolOp .And (b :: rest) pos) m2 p2) : MW Z (.BoolOp .And (a :: b :: rest) pos) (mAnd m1 m2) (p1 && p2) := pw_imp (pw_and h1 h2) fun _ _ _ q => tt_and q
theorem mw_or (h1 : MT Z a m1 p1) (h2 : MW Z (.BoolOp .Or (b :: rest) pos) m2 p2) : MW Z (.BoolOp .Or (a :: b :: rest) pos) (mOr m1 m2) (p1 && p2) := pw_imp (pw_or h1 h2) fun _ _ _ q => tt_or q
theorem mt_w (h : MW Z a m p) : MT Z a m p := h.pt
theorem mt_not (h : MT Z a m p) : MT Z (.UnaryOp .Not a pos) (mNot m) p := pt_imp (pt_not h) fun _ _ _ q => tt_not q
end
/-- a truth by its expression -/
theorem tx_ofB {D : Dn} {Wx : WX} {p : Bool} {m : Sm Bool} {σ : St} {H : Hp} {Q : VK} (h : TX D Wx p true (ofB m) σ H Q) : TT' D Wx p m σ H fun b H1 => Q (.bl b) H1 := by
  obtain ⟨env, G, Os, s, q⟩ := h
  refine ⟨env, G, Os, s, ?_⟩
  unfold ofB Sm.bind at q
  cases e1 : m env with
  | bad => rw [e1] at q; exact q
  | ex c env1 => rw [e1] at q; exact q
  | ok b env1 =>
    rw [e1] at q
    exact fun G' H' Os' s' t => q (.bl b) G' H' Os' [] s' ⟨rfl, rfl⟩ (OwnK.nil s') t
/-- a truth's expression, as a test -/
theorem tt_ofX {D : Dn} {Wx : WX} {p k : Bool} {m : Sm W} {σ : St} {H : Hp} {Q : VK} (h : TT' D Wx p (toB m) σ H fun b H1 => Q (.bl b) H1) : TX D Wx p k m σ H fun x H1 => ∃ c, x = .bl c ∧ Q (.bl c) H1 :=
  tt_val (k := k) h
section
variable {Z : Zt} {a b : Expr} {rest : List Expr} {m m1 m2 : Sm W} {p p1 p2 k k1 k2 : Bool} {pos : Pos} {op : BoolOp}
def mAndV (m1 m2 : Sm W) : Sm W := ofB (mAnd (toB m1) (toB m2))
def mOrV (m1 m2 : Sm W) : Sm W := ofB (mOr (toB m1) (toB m2))
def mNotV (m : Sm W) : Sm W := ofB (mNot (toB m))
theorem me_one (h : ME Z a m p k) : ME Z (.BoolOp op [a] pos) m p k := pe_one h
theorem me_and (h1 : ME Z a m1 p1 k1) (h2 : ME Z (.BoolOp .And (b :: rest) pos) m2 p2 k2) : ME Z (.BoolOp .And (a :: b :: rest) pos) (mAndV m1 m2) (p1 && p2) true := pe_imp (pe_and h1 h2) fun σ H Q q => by
  have z := tt_and (tx_ofB q)
  refine tt_val (m := m1) (k := k1) ?_
  obtain ⟨env, G, Os, s, z⟩ := z
  refine ⟨env, G, Os, s, ?_⟩
  revert z
  cases toB m1 env with
  | bad => exact id
  | ex c env1 => exact id
  | ok c env1 =>
    intro z G1 H1 Os1 s1 t1
    have z1 := z G1 H1 Os1 s1 t1
    cases c with
    | false => exact z1
    | true =>
      show TX _ _ _ _ _ _ _ _
      have z2 := tt_val (k := k2) z1
      obtain ⟨env2, G2, Os2, s2, y⟩ := z2
      refine ⟨env2, G2, Os2, s2, ?_⟩
      revert y
      cases m2 env2 with
      | bad => exact id
      | ex c env1 => exact id
      | ok c env1 =>
        intro y v G' H' Os' Ow s' r o t
        obtain ⟨c, rfl, y⟩ := y v G' H' Os' Ow s' r o t
        exact y
theorem me_or (h1 : ME Z a m1 p1 k1) (h2 : ME Z (.BoolOp .Or (b :: rest) pos) m2 p2 k2) : ME Z (.BoolOp .Or (a :: b :: rest) pos) (mOrV m1 m2) (p1 && p2) true := pe_imp (pe_or h1 h2) fun σ H Q q => by
  have z := tt_or (tx_ofB q)
  refine tt_val (m := m1) (k := k1) ?_
  obtain ⟨env, G, Os, s, z⟩ := z
  refine ⟨env, G, Os, s, ?_⟩
  revert z
  cases toB m1 env with
  | bad => exact id
  | ex c env1 => exact id
  | ok c env1 =>
    intro z G1 H1 Os1 s1 t1
    have z1 := z G1 H1 Os1 s1 t1
    cases c with
    | true => exact z1
    | false =>
      show TX _ _ _ _ _ _ _ _
      have z2 := tt_val (k := k2) z1
      obtain ⟨env2, G2, Os2, s2, y⟩ := z2
      refine ⟨env2, G2, Os2, s2, ?_⟩
      revert y
      cases m2 env2 with
      | bad => exact id
      | ex c env1 => exact id
      | ok c env1 =>
        intro y v G' H' Os' Ow s' r o t
        obtain ⟨c, rfl, y⟩ := y v G' H' Os' Ow s' r o t
        exact y
theorem me_not (h : ME Z a m p k) : ME Z (.UnaryOp .Not a pos) (mNotV m) p true := pe_imp (pe_not h) fun σ H Q q => tt_val (tt_not (tx_ofB q))
end

/-! ### arguments -/
def TA' (D : Dn) (Wx : WX) (p : Bool) (m : Sm (List W)) : TA := fun σ H Q => ∃ (env : List W) (G : Hp) (Os : List (List Addr)), StOk D G H env σ Os ∧ match m env with
  | .ok ws env' => ∀ vs G' H' Os', StOk D G' H' env' σ Os' → RFs D G' ws vs → Stp p env G H Os env' G' H' Os' [] → Q vs H'
  | .ex c env' => ∀ G' H' Os', StOk D G' H' env' σ Os' → Stp p env G H Os env' G' H' Os' [] → Wx (.ref (D.CA c)) none σ H'
  | .bad => False
abbrev MA (Z : Zt) (es : List Expr) (m : Sm (List W)) (p : Bool) : Prop := PA Z.X es (TA' Z.D Z.W p m)
theorem pa_imp {X : Cx} {e : List Expr} {t t' : TA} (h : PA X e t) (i : ∀ σ H Q, t' σ H Q → t σ H Q) : PA X e t' := ⟨fun pos pins s σ H Q I w => h.run pos pins s σ H Q I (i σ H Q w)⟩
def mNil : Sm (List W) := Sm.ret []
def mCons (m : Sm W) (ms : Sm (List W)) : Sm (List W) := Sm.bind m fun w => if w.frz = true then Sm.bind ms fun ws => Sm.ret (w :: ws) else fun _ => .bad
theorem ma_nil {Z : Zt} : MA Z [] mNil true := pa_imp pa_nil fun σ H Q q => by
  obtain ⟨env, G, Os, s, q⟩ := q
  exact q [] G H Os s rfl (Stp.id true)
theorem kO_less {k : Bool} {O : List Addr} : ∀ x ∈ ([] : List Addr), x ∈ kO k O := fun _ z => nomatch z
theorem tx_cons {D : Dn} {Wx : WX} {p1 p2 k : Bool} {m : Sm W} {ms : Sm (List W)} {σ : St} {H : Hp} {Q : List V → Hp → Prop} (q : TA' D Wx (p1 && p2) (mCons m ms) σ H Q) :
    TX D Wx p1 k m σ H fun x H1 => TA' D Wx p2 ms σ H1 fun xs H2 => Q (x :: xs) H2 := by
  obtain ⟨env, G, Os, s, q⟩ := q
  refine ⟨env, G, Os, s, ?_⟩
  unfold mCons Sm.bind at q
  cases e1 : m env with
  | bad => rw [e1] at q; exact q
  | ex c env1 =>
    rw [e1] at q
    exact fun G' H' Os' s' t => q G' H' Os' s' (t.and p2)
  | ok w env1 =>
    rw [e1] at q
    intro v1 G1 H1 Os1 O1 s1 r1 o1 t1
    by_cases hf : w.frz = true
    · simp only [if_pos hf] at q
      obtain ⟨rfl, f⟩ := r1.toF hf
      have t1' : Stp p1 env G H Os env1 G1 H1 Os1 [] := t1.less kO_less
      refine ⟨env1, G1, Os1, s1, ?_⟩
      cases e2 : ms env1 with
      | bad => simp only [e2] at q
      | ex c env2 =>
        simp only [e2] at q
        exact fun G' H' Os' s' t => q G' H' Os' s' (t1'.trans t)
      | ok ws env2 =>
        simp only [e2] at q
        exact fun vs G' H' Os' s' r t => q (v1 :: vs) G' H' Os' s' ⟨v1, vs, rfl, RF.mono t.gen.mono _ _ f, r⟩ (t1'.trans t)
    · simp only [if_neg hf] at q
theorem ma_cons {Z : Zt} {e : Expr} {es : List Expr} {m : Sm W} {ms : Sm (List W)} {p1 p2 k : Bool} (h : ME Z e m p1 k) (hr : MA Z es ms p2) (hs : starEach (e :: es) Z.X.env = (false, eval e Z.X.env) :: starEach es Z.X.env := by rfl) : MA Z (e :: es) (mCons m ms) (p1 && p2) :=
  pa_imp (pa_cons h hr hs) fun _ _ _ q => tx_cons q

/-- a rule over arguments does what f says -/
def RelA (D : Dn) (r : List V → Hp → VK → Prop) (f : List W → Option W) : Prop := ∀ (G H : Hp) (ws : List W) (vs : List V) (w : W) (Q : VK), Sub G H → RFs D G ws vs → f ws = some w → Ans D G H w Q → r vs H Q
def mArgs (f : List W → Option W) (m : Sm (List W)) : Sm W := Sm.bind m fun ws => lft (f ws)
theorem ta_args {D : Dn} {Wx : WX} {r : List V → Hp → VK → Prop} {f : List W → Option W} {m : Sm (List W)} {p : Bool} (o : RelA D r f) {σ : St} {H : Hp} {Q : VK} (hq : TX D Wx p true (mArgs f m) σ H Q) :
    TA' D Wx p m σ H fun vs H1 => r vs H1 Q := by
  obtain ⟨env, G, Os, s, hq⟩ := hq
  refine ⟨env, G, Os, s, ?_⟩
  unfold mArgs Sm.bind at hq
  cases e1 : m env with
  | bad => rw [e1] at hq; exact hq
  | ex c env1 => rw [e1] at hq; exact hq
  | ok ws env1 =>
    rw [e1] at hq
    intro vs G1 H1 Os1 s1 r1 t1
    unfold lft at hq
    cases ef : f ws with
    | none => simp only [ef] at hq
    | some w =>
      simp only [ef] at hq
      refine o G1 H1 ws vs w Q s1.sub r1 ef fun v G' H' Ow sub r nd gn st => ?_
      refine hq v G' H' Os1 Ow (s1.step st sub) r ⟨s1.apart st nd, gn⟩ ?_
      have z := t1.trans (Stp.grow true (env := env1) (Os := Os1) st)
      rwa [Bool.and_true] at z
/-! ### displays -/
theorem RFs.len {D : Dn} {G : Hp} : ∀ {ws : List W} {vs : List V}, RFs D G ws vs → ws.length = vs.length
  | [], _, h => by rw [show _ = [] from h]; rfl
  | w :: ws, _, h => by
    obtain ⟨v, r, rfl, _, h2⟩ := h
    simp [RFs.len h2]
theorem sub_upd {G H : Hp} {p : Addr} {o : HO} (s : Sub G H) (n : H p = none) : Sub G (upd H p o) := fun a x h => by
  rw [upd_ne (ne_of_none (s a x h) n)]; exact s a x h
theorem sub_upd2 {G H : Hp} {p : Addr} {o : HO} (s : Sub G H) : Sub (upd G p o) (upd H p o) := fun a x h => by
  by_cases e : a = p
  · subst e; rw [upd_same] at h; rw [upd_same]; exact h
  · rw [upd_ne e] at h; rw [upd_ne e]; exact s a x h
theorem sub_new {H : Hp} {p : Addr} {o : HO} (n : H p = none) : Sub H (upd H p o) := sub_upd (Sub.refl H) n
theorem sub_none {G H : Hp} {p : Addr} (s : Sub G H) (n : H p = none) : G p = none := by
  cases e : G p with
  | none => rfl
  | some o => rw [s p o e] at n; cases n
/-- a new object that is told as frozen -/
theorem step_frz {G H : Hp} {p : Addr} {o : HO} (s : Sub G H) (n : H p = none) : Step G H [] (upd G p o) (upd H p o) [] :=
  ⟨sub_new (sub_none s n), fun a x h _ => sub_new n a x h, fun a x h _ _ g => by rw [upd_ne (ne_of_none h n)]; exact g, fun _ z => nomatch z⟩
/-- a new object that is owned -/
theorem step_own {G H : Hp} {p : Addr} {o : HO} (n : H p = none) : Step G H [] G (upd H p o) [p] :=
  ⟨Sub.refl _, fun a x h _ => sub_new n a x h, fun _ _ _ _ _ g => g, fun a ha => .inr (by rw [List.mem_singleton.mp ha]; exact n)⟩
/-- a new list -/
theorem Ans.lst {D : Dn} {G H : Hp} {b : Bool} {ws : List W} {vs : List V} {p : Addr} {Q : VK} (s : Sub G H) (r : RFs D G ws vs) (n : H p = none) (h : Ans D G H (.lst b ws) Q) : Q (.ref p) (upd H p (.lst vs)) := by
  cases b with
  | false =>
    have t := step_frz (o := .lst vs) s n
    exact h _ (upd G p (.lst vs)) _ [] (sub_upd2 s) ⟨rfl, p, vs, rfl, upd_same, RFs.mono t.mono _ _ r⟩ List.nodup_nil (fun _ z => nomatch z) t
  | true =>
    exact h _ G _ [p] (sub_upd s n) ⟨p, vs, rfl, rfl, upd_same, r⟩ (by simp) (fun a ha => by rw [List.mem_singleton.mp ha]; exact sub_none s n) (step_own n)
theorem Ans.tup {D : Dn} {G H : Hp} {ws : List W} {vs : List V} {p : Addr} {Q : VK} (s : Sub G H) (r : RFs D G ws vs) (n : H p = none) (h : Ans D G H (.tup ws) Q) : Q (.ref p) (upd H p (.tup vs)) := by
  have t := step_frz (o := .tup vs) s n
  exact h _ (upd G p (.tup vs)) _ [] (sub_upd2 s) ⟨rfl, p, vs, rfl, SqT.of upd_same, RFs.mono t.mono _ _ r⟩ List.nodup_nil (fun _ z => nomatch z) t
def lstW (b : Bool) (ws : List W) : Option W := if ws.length ≤ sizeLine then some (.lst b ws) else none
def tupW (ws : List W) : Option W := if ws.length ≤ sizeLine then some (.tup ws) else none
section
variable {Z : Zt} {es : List Expr} {m : Sm (List W)} {p : Bool} {pos : Pos}
theorem me_lst (b : Bool) (h : MA Z es m p) : ME Z (.List es pos) (mArgs (lstW b) m) p true := pe_imp (pe_lst h) fun σ H Q q => ta_args (r := fun xs H1 Q => xs.length ≤ sizeLine ∧ ∀ p, H1 p = none → Q (.ref p) (upd H1 p (.lst xs))) (fun G H ws vs w Q s r e q => by
  unfold lstW at e
  by_cases hl : ws.length ≤ sizeLine
  · rw [if_pos hl] at e
    cases e
    exact ⟨by rw [← r.len]; exact hl, fun p n => q.lst s r n⟩
  · rw [if_neg hl] at e; cases e) q
theorem me_tup {k : Nat} (h : MA Z es m p) : ME Z (.Tuple es k pos) (mArgs tupW m) p true := pe_imp (pe_tup h) fun σ H Q q => ta_args (r := fun xs H1 Q => xs.length ≤ sizeLine ∧ ∀ p, H1 p = none → Q (.ref p) (upd H1 p (.tup xs))) (fun G H ws vs w Q s r e q => by
  unfold tupW at e
  by_cases hl : ws.length ≤ sizeLine
  · rw [if_pos hl] at e
    cases e
    exact ⟨by rw [← r.len]; exact hl, fun p n => q.tup s r n⟩
  · rw [if_neg hl] at e; cases e) q
end
end Ev

namespace Ev
open PySem PySem.Spec L2

/-! ### values as data -/
mutual
def W.dat : W → PyData
  | .non => .none
  | .bl b => .bool b
  | .int i => .int i
  | .str s => .str s
  | .tup ws => .tuple (datL ws)
  | .lst _ ws => .list (datL ws)
  | .scr ws => .list (datL ws)
  | .nst ws => .list (datL ws)
  | .ntp ws => .tuple (datL ws)
  | _ => .none
def datL : List W → List PyData
  | [] => []
  | w :: ws => w.dat :: datL ws
end
theorem datL_map : ∀ ws : List W, datL ws = ws.map W.dat
  | [] => rfl
  | w :: ws => by rw [datL, List.map_cons, datL_map ws]
mutual
theorem W.plain : ∀ w : W, w.dat.plain = true
  | .non => rfl
  | .bl _ => rfl
  | .int _ => rfl
  | .str _ => rfl
  | .tup ws => by rw [W.dat, PyData.plain]; exact datL_plain ws
  | .lst _ ws => by rw [W.dat, PyData.plain]; exact datL_plain ws
  | .scr ws => by rw [W.dat, PyData.plain]; exact datL_plain ws
  | .nst ws => by rw [W.dat, PyData.plain]; exact datL_plain ws
  | .ntp ws => by rw [W.dat, PyData.plain]; exact datL_plain ws
  | .dead => rfl
  | .dct _ _ _ => rfl
  | .ndc _ _ => rfl
  | .obj _ _ _ => rfl
  | .exc _ => rfl
theorem datL_plain : ∀ ws : List W, PyData.plainAll (datL ws) = true
  | [] => rfl
  | w :: ws => by rw [datL, PyData.plainAll, W.plain w, datL_plain ws]; rfl
end
mutual
theorem RF.dp {D : Dn} {H : Hp} : ∀ (w : W) (v : V), RF D H w v → Dp D.K H v w.dat
  | .non, _, h => by cases h; exact .non
  | .bl _, _, h => by cases h; exact .bl _
  | .int _, _, h => by cases h; exact .int _
  | .str _, _, h => by cases h; exact .str _
  | .tup ws, _, h => by
    obtain ⟨a, vs, rfl, h1, h2⟩ := h
    exact .tup h1 (RFs.dp ws vs h2)
  | .lst false ws, _, h => by
    obtain ⟨a, vs, rfl, h1, h2⟩ := h
    exact .lst (SqL.of h1) (RFs.dp ws vs h2)
  | .scr ws, _, h => by
    obtain ⟨a, vs, rfl, h1, h2⟩ := h
    exact .lst h1 (RFs.dp ws vs h2)
  | .dead, _, h => h.elim
  | .lst true _, _, h => h.elim
  | .nst _, _, h => h.elim
  | .ntp _, _, h => h.elim
  | .dct _ _ _, _, h => h.elim
  | .ndc _ _, _, h => h.elim
  | .obj _ _ _, _, h => h.elim
  | .exc _, _, h => h.elim
theorem RFs.dp {D : Dn} {H : Hp} : ∀ (ws : List W) (vs : List V), RFs D H ws vs → DpAll D.K H vs (datL ws)
  | [], _, h => by rw [show _ = [] from h]; exact .nil
  | w :: ws, _, h => by
    obtain ⟨v, r, rfl, h1, h2⟩ := h
    exact .cons (RF.dp w v h1) (RFs.dp ws r h2)
end
mutual
/-- plain data, frozen or owned lists of such -/
def W.fd : W → Bool
  | .lst _ _ => true
  | .nst ws => fds ws
  | .ntp ws => fds ws
  | w => w.frz
def fds : List W → Bool
  | [] => true
  | w :: ws => w.fd && fds ws
end
theorem RO.lstAt {D : Dn} {G H : Hp} {b : Bool} {ws : List W} {v : V} {O : List Addr} (s : Sub G H) (r : RO D G H (.lst b ws) v O) : ∃ a vs, v = .ref a ∧ H a = some (.lst vs) ∧ RFs D G ws vs := by
  cases b with
  | true =>
    obtain ⟨a, vs, rfl, rfl, h1, h2⟩ := r
    exact ⟨a, vs, rfl, h1, h2⟩
  | false =>
    obtain ⟨rfl, a, vs, rfl, h1, h2⟩ := r
    exact ⟨a, vs, rfl, s _ _ h1, h2⟩
mutual
theorem RO.dpW {D : Dn} {G H : Hp} (s : Sub G H) : ∀ (w : W) (v : V) (O : List Addr), RO D G H w v O → w.fd = true → Dp D.K H v w.dat
  | .lst b ws, v, O, r, _ => by
    obtain ⟨a, vs, rfl, h1, h2⟩ := r.lstAt s
    exact .lst (SqL.of h1) (RFs.dp ws vs (RFs.mono s ws vs h2))
  | .nst ws, v, O, r, f => by
    obtain ⟨a, vs, O', rfl, rfl, h1, h2⟩ := r
    exact .lst (SqL.of h1) (ROs.dpW s ws vs O' h2 f)
  | .ntp ws, v, O, r, f => by
    obtain ⟨a, vs, rfl, h1, h2⟩ := r
    exact .tup (s.sqT h1) (ROs.dpW s ws vs O h2 f)
  | .non, v, O, r, _ => RF.dp _ v (RF.mono s _ v r.2)
  | .bl _, v, O, r, _ => RF.dp _ v (RF.mono s _ v r.2)
  | .int _, v, O, r, _ => RF.dp _ v (RF.mono s _ v r.2)
  | .str _, v, O, r, _ => RF.dp _ v (RF.mono s _ v r.2)
  | .tup _, v, O, r, _ => RF.dp _ v (RF.mono s _ v r.2)
  | .scr _, v, O, r, _ => RF.dp _ v (RF.mono s _ v r.2)
  | .dct false _ _, v, O, _, f => nomatch f
  | .dead, _, _, _, f => nomatch f
  | .dct true _ _, _, _, _, f => nomatch f
  | .ndc _ _, _, _, _, f => nomatch f
  | .obj _ _ _, _, _, _, f => nomatch f
  | .exc _, _, _, _, f => nomatch f
theorem ROs.dpW {D : Dn} {G H : Hp} (s : Sub G H) : ∀ (ws : List W) (vs : List V) (O : List Addr), ROs D G H ws vs O → fds ws = true → DpAll D.K H vs (datL ws)
  | [], _, _, r, _ => by rw [r.1]; exact .nil
  | w :: ws, _, _, r, f => by
    obtain ⟨v, u, O1, O2, rfl, rfl, h1, h2⟩ := r
    have f' : w.fd = true ∧ fds ws = true := Bool.and_eq_true_iff.mp f
    exact .cons (RO.dpW s w v O1 h1 f'.1) (ROs.dpW s ws u O2 h2 f'.2)
end
theorem RO.dp {D : Dn} {G H : Hp} {w : W} {v : V} {O : List Addr} (s : Sub G H) (r : RO D G H w v O) (h : w.fd = true) : Dp D.K H v w.dat := RO.dpW s w v O r h

/-! ### equality -/
def smallD (a b : W) : Prop := a.dat.depth ≤ 60 ∨ b.dat.depth ≤ 60
instance {a b : W} : Decidable (smallD a b) := inferInstanceAs (Decidable (_ ∨ _))
def eqW (a b : W) : Option W := if (a.fd && b.fd) = true ∧ smallD a b then some (.bl (PyData.eqv a.dat b.dat)) else none
def neW (a b : W) : Option W := if (a.fd && b.fd) = true ∧ smallD a b then some (.bl (!PyData.eqv a.dat b.dat)) else none
theorem smallD.min {a b : W} (h : smallD a b) : min a.dat.depth b.dat.depth ≤ 60 := by
  rcases h with h | h
  · exact Nat.le_trans (Nat.min_le_left _ _) h
  · exact Nat.le_trans (Nat.min_le_right _ _) h
section
variable {Z : Zt} {k : Nat}
theorem op_eqW (hr : Room k Z.X.A) : OpS Z (compareOp .Eq) eqW := fun G H w1 w2 v1 v2 O1 O2 w Q s r1 r2 e q => by
  unfold eqW at e
  by_cases hc : (w1.fd && w2.fd) = true ∧ smallD w1 w2
  · rw [if_pos hc] at e
    cases e
    obtain ⟨h12, hs⟩ := hc
    rw [Bool.and_eq_true] at h12
    have d1 := r1.dp s h12.1
    have d2 := r2.dp s h12.2
    refine ⟨fun x y H' Q' => x = v1 ∧ y = v2 ∧ H' = H ∧ Q' (.bl (PyData.eqv w1.dat w2.dat)) H, fun pins st σ H' x y v u Q' I rx ry hh => ?_, rfl, rfl, rfl, q.bl s⟩
    obtain ⟨rfl, rfl, rfl, hq⟩ := hh
    obtain ⟨as, x1⟩ := Dp.reads I _ _ v d1 rx
    obtain ⟨bs, x2⟩ := Dp.reads I _ _ u d2 ry
    have := hs.min
    have := hr.units
    exact SeqAt.eq_plain x1 x2 (W.plain _) (W.plain _) (by omega) ⟨.bl _, _, I, rfl, hq⟩
  · rw [if_neg hc] at e; cases e
theorem op_neW (hr : Room k Z.X.A) : OpS Z (compareOp .NotEq) neW := fun G H w1 w2 v1 v2 O1 O2 w Q s r1 r2 e q => by
  unfold neW at e
  by_cases hc : (w1.fd && w2.fd) = true ∧ smallD w1 w2
  · rw [if_pos hc] at e
    cases e
    obtain ⟨h12, hs⟩ := hc
    rw [Bool.and_eq_true] at h12
    have d1 := r1.dp s h12.1
    have d2 := r2.dp s h12.2
    refine ⟨fun x y H' Q' => x = v1 ∧ y = v2 ∧ H' = H ∧ Q' (.bl (!PyData.eqv w1.dat w2.dat)) H, fun pins st σ H' x y v u Q' I rx ry hh => ?_, rfl, rfl, rfl, q.bl s⟩
    obtain ⟨rfl, rfl, rfl, hq⟩ := hh
    obtain ⟨as, x1⟩ := Dp.reads I _ _ v d1 rx
    obtain ⟨bs, x2⟩ := Dp.reads I _ _ u d2 ry
    have := hs.min
    have := hr.units
    exact SeqAt.ne_plain x1 x2 (W.plain _) (W.plain _) (by omega) ⟨.bl _, _, I, rfl, hq⟩
  · rw [if_neg hc] at e; cases e
/-- x in c -/
def seqD : W → Option (List PyData)
  | .lst _ ws => some (datL ws)
  | .tup ws => some (datL ws)
  | .scr ws => some (datL ws)
  | _ => none
def inD (x : W) (ds : List PyData) : Bool := ds.any fun y => PyData.eqv y x.dat
def inW (neg : Bool) (x c : W) : Option W := match c with
  | .str z => match x with
    | .str y => some (.bl (if neg then !(!(Builtin.Str.occurrences z y 0 z.length 1).isEmpty) else !(Builtin.Str.occurrences z y 0 z.length 1).isEmpty))
    | _ => none
  | c => if x.fd = true ∧ x.dat.depth ≤ 60 then (seqD c).map fun ds => .bl (if neg then !inD x ds else inD x ds) else none
theorem op_inW (hr : Room k Z.X.A) : OpS Z (compareOp .In) (inW false) := fun G H w1 w2 v1 v2 O1 O2 w Q s r1 r2 e q => by
  by_cases hz : ∃ z, w2 = .str z
  · obtain ⟨z, rfl⟩ := hz
    cases w1 with
    | str y =>
      cases e
      obtain ⟨_, rfl⟩ := r1
      obtain ⟨_, rfl⟩ := r2
      exact ⟨_, op_in_str, y, z, rfl, rfl, q.bl s⟩
    | _ => cases e
  · have e' : (if w1.fd = true ∧ w1.dat.depth ≤ 60 then (seqD w2).map fun ds => W.bl (inD w1 ds) else none) = some w := by
      cases w2 <;> first
        | exact absurd ⟨_, rfl⟩ hz
        | exact e
    by_cases hc : w1.fd = true ∧ w1.dat.depth ≤ 60
    · rw [if_pos hc] at e'
      have d1 := r1.dp s hc.1
      have hfd : w2.fd = true := by
        cases w2 <;> first
          | rfl
          | (exfalso; exact nomatch e')
      have d2 := r2.dp s hfd
      obtain ⟨ds, hd, hw⟩ : ∃ ds, seqD w2 = some ds ∧ .bl (inD w1 ds) = w := by
        cases h : seqD w2 with
        | none => rw [h] at e'; cases e'
        | some ds => rw [h] at e'; exact ⟨ds, rfl, Option.some.inj e'⟩
      subst hw
      refine ⟨fun x y H' Q' => x = v1 ∧ y = v2 ∧ H' = H ∧ Q' (.bl (inD w1 ds)) H, fun pins st σ H' x y v u Q' I rx ry hh => ?_, rfl, rfl, rfl, q.bl s⟩
      obtain ⟨rfl, rfl, rfl, hq⟩ := hh
      obtain ⟨as, x1⟩ := Dp.reads I _ _ v d1 rx
      obtain ⟨bs, x2⟩ := Dp.reads I _ _ u d2 ry
      have := hr.units
      have hm : min (PyData.depthAll ds) w1.dat.depth ≤ 60 := Nat.le_trans (Nat.min_le_right _ _) hc.2
      have fin : EP Z.X pins σ Q' (.bool (ds.any fun y => PyData.eqv y w1.dat)) st := ⟨.bl _, _, I, rfl, hq⟩
      cases w2 with
      | lst b ws => cases hd; exact SeqAt.in_list_data x2 x1 (datL_plain ws) (W.plain _) (by omega) fin
      | scr ws => cases hd; exact SeqAt.in_list_data x2 x1 (datL_plain ws) (W.plain _) (by omega) fin
      | tup ws => cases hd; exact SeqAt.in_tuple_data x2 x1 (datL_plain ws) (W.plain _) (by omega) fin
      | _ => cases hd
    · rw [if_neg hc] at e'; cases e'
theorem op_notInW (hr : Room k Z.X.A) : OpS Z (compareOp .NotIn) (inW true) := fun G H w1 w2 v1 v2 O1 O2 w Q s r1 r2 e q => by
  by_cases hz : ∃ z, w2 = .str z
  · obtain ⟨z, rfl⟩ := hz
    cases w1 with
    | str y =>
      cases e
      obtain ⟨_, rfl⟩ := r1
      obtain ⟨_, rfl⟩ := r2
      exact ⟨_, L2.op_notIn_str, y, z, rfl, rfl, q.bl s⟩
    | _ => cases e
  · have e' : (if w1.fd = true ∧ w1.dat.depth ≤ 60 then (seqD w2).map fun ds => W.bl (!inD w1 ds) else none) = some w := by
      cases w2 <;> first
        | exact absurd ⟨_, rfl⟩ hz
        | exact e
    by_cases hc : w1.fd = true ∧ w1.dat.depth ≤ 60
    · rw [if_pos hc] at e'
      have d1 := r1.dp s hc.1
      have hfd : w2.fd = true := by
        cases w2 <;> first
          | rfl
          | (exfalso; exact nomatch e')
      have d2 := r2.dp s hfd
      obtain ⟨ds, hd, hw⟩ : ∃ ds, seqD w2 = some ds ∧ .bl (!inD w1 ds) = w := by
        cases h : seqD w2 with
        | none => rw [h] at e'; cases e'
        | some ds => rw [h] at e'; exact ⟨ds, rfl, Option.some.inj e'⟩
      subst hw
      refine ⟨fun x y H' Q' => x = v1 ∧ y = v2 ∧ H' = H ∧ Q' (.bl (!inD w1 ds)) H, fun pins st σ H' x y v u Q' I rx ry hh => ?_, rfl, rfl, rfl, q.bl s⟩
      obtain ⟨rfl, rfl, rfl, hq⟩ := hh
      obtain ⟨as, x1⟩ := Dp.reads I _ _ v d1 rx
      obtain ⟨bs, x2⟩ := Dp.reads I _ _ u d2 ry
      have := hr.units
      have hm : min (PyData.depthAll ds) w1.dat.depth ≤ 60 := Nat.le_trans (Nat.min_le_right _ _) hc.2
      have fin : EP Z.X pins σ Q' (.bool (!ds.any fun y => PyData.eqv y w1.dat)) st := ⟨.bl _, _, I, rfl, hq⟩
      cases w2 with
      | lst b ws => cases hd; exact SeqAt.notIn_list_data x2 x1 (datL_plain ws) (W.plain _) (by omega) fin
      | scr ws => cases hd; exact SeqAt.notIn_list_data x2 x1 (datL_plain ws) (W.plain _) (by omega) fin
      | tup ws => cases hd; exact SeqAt.notIn_tuple_data x2 x1 (datL_plain ws) (W.plain _) (by omega) fin
      | _ => cases hd
    · rw [if_neg hc] at e'; cases e'
end

/-! ### order -/
def ltD (a b : W) : Option W := if (a.fd && b.fd) = true ∧ smallD a b ∧ PySem.W.alike a.dat b.dat = true ∧ (match a with | .tup _ => true | _ => false) = true then some (.bl (PySem.W.dataLt a.dat b.dat)) else none
def ltW : W → W → Option W
  | .int i, .int j => some (.bl (decide (i < j)))
  | .str x, .str y => some (.bl (decide (x.cps.toList < y.cps.toList)))
  | .tup xs, .tup ys => ltD (.tup xs) (.tup ys)
  | _, _ => none
def leW : W → W → Option W
  | .int i, .int j => some (.bl (decide (i ≤ j)))
  | _, _ => none
def geW : W → W → Option W
  | .int i, .int j => some (.bl (decide (j ≤ i)))
  | _, _ => none
def intsW : List W → Option (List Int)
  | [] => some []
  | .int i :: ws => (intsW ws).map (i :: ·)
  | _ :: _ => none
theorem intsW_map : ∀ ns : List Int, intsW (ns.map W.int) = some ns
  | [] => rfl
  | n :: ns => by rw [List.map_cons, intsW, intsW_map ns]; rfl
theorem intsW_eq : ∀ {ws : List W} {ns : List Int}, intsW ws = some ns → ws = ns.map W.int
  | [], ns, h => by cases h; rfl
  | .int i :: ws, ns, h => by
    rw [intsW] at h
    cases e : intsW ws with
    | none => rw [e] at h; cases h
    | some ms =>
      rw [e] at h
      have h' : i :: ms = ns := Option.some.inj h
      rw [← h', List.map_cons, intsW_eq e]
theorem RFs.ints {D : Dn} {G : Hp} : ∀ {ns : List Int} {vs : List V}, RFs D G (ns.map W.int) vs → vs = ns.map V.int
  | [], _, h => h
  | n :: ns, _, h => by
    obtain ⟨v, r, rfl, h1, h2⟩ := h
    rw [List.map_cons, RFs.ints h2, show v = .int n from h1]
/-- b > a of tuples of ints -/
def gtW : W → W → Option W
  | .int i, .int j => some (.bl (decide (j < i)))
  | .tup xs, .tup ys => (intsW xs).bind fun ns => (intsW ys).map fun ms => .bl (Ob.lexAt (fun j => decide (ns.getD j 0 = ms.getD j 0)) (fun j => decide (ms.getD j 0 < ns.getD j 0)) (decide (ms.length < ns.length)) 0 (min ns.length ms.length))
  | _, _ => none
section
variable {Z : Zt} {k : Nat}
theorem op_ltW (hr : Room k Z.X.A) : OpS Z (compareOp .Lt) ltW := fun G H w1 w2 v1 v2 O1 O2 w Q s r1 r2 e q => by
  cases w1 with
  | int i =>
    cases w2 with
    | int j =>
      cases e
      obtain ⟨_, rfl⟩ := r1
      obtain ⟨_, rfl⟩ := r2
      exact ⟨_, op_lt, i, j, rfl, rfl, q.bl s⟩
    | _ => cases e
  | str i =>
    cases w2 with
    | str j =>
      cases e
      obtain ⟨_, rfl⟩ := r1
      obtain ⟨_, rfl⟩ := r2
      exact ⟨_, op_lt_str, i, j, rfl, rfl, q.bl s⟩
    | _ => cases e
  | tup xs =>
    cases w2 with
    | tup ys =>
      have e' : ltD (.tup xs) (.tup ys) = some w := e
      unfold ltD at e'
      by_cases hc : ((W.tup xs).fd && (W.tup ys).fd) = true ∧ smallD (.tup xs) (.tup ys) ∧ PySem.W.alike (W.tup xs).dat (W.tup ys).dat = true ∧ true = true
      · rw [if_pos hc] at e'
        cases e'
        obtain ⟨_, hs, ha, _⟩ := hc
        have d1 := r1.dp s rfl
        have d2 := r2.dp s rfl
        refine ⟨fun x y H' Q' => x = v1 ∧ y = v2 ∧ H' = H ∧ Q' (.bl (PySem.W.dataLt (W.tup xs).dat (W.tup ys).dat)) H, fun pins st σ H' x y v u Q' I rx ry hh => ?_, rfl, rfl, rfl, q.bl s⟩
        obtain ⟨rfl, rfl, rfl, hq⟩ := hh
        obtain ⟨as, x1⟩ := Dp.reads I _ _ v d1 rx
        obtain ⟨bs, x2⟩ := Dp.reads I _ _ u d2 ry
        have := hs.min
        have := hr.units
        exact PySem.W.rcLt_alike _ _ Z.X.A st v u as bs x1 x2 ha (fun z => nomatch z) (by omega) _ _ _ _ ⟨.bl _, _, I, rfl, hq⟩
      · rw [if_neg hc] at e'; cases e'
    | _ => cases e
  | _ => cases e
theorem op_leW : OpS Z (compareOp .LtE) leW := fun G H w1 w2 v1 v2 O1 O2 w Q s r1 r2 e q => by
  cases w1 with
  | int i =>
    cases w2 with
    | int j =>
      cases e
      obtain ⟨_, rfl⟩ := r1
      obtain ⟨_, rfl⟩ := r2
      exact ⟨_, op_le, i, j, rfl, rfl, q.bl s⟩
    | _ => cases e
  | _ => cases e
theorem op_geW : OpS Z (compareOp .GtE) geW := fun G H w1 w2 v1 v2 O1 O2 w Q s r1 r2 e q => by
  cases w1 with
  | int i =>
    cases w2 with
    | int j =>
      cases e
      obtain ⟨_, rfl⟩ := r1
      obtain ⟨_, rfl⟩ := r2
      exact ⟨_, op_ge, i, j, rfl, rfl, q.bl s⟩
    | _ => cases e
  | _ => cases e
theorem op_gtT {X : Cx} (hu : X.A.units < cLine) : OpR X (compareOp .Gt) (fun x y H Q => ∃ (a b : Addr) (ns ms : List Int), x = .ref a ∧ y = .ref b ∧ SqT X.K H a (ns.map V.int) ∧ SqT X.K H b (ms.map V.int) ∧
    Q (.bl (Ob.lexAt (fun j => decide (ns.getD j 0 = ms.getD j 0)) (fun j => decide (ms.getD j 0 < ns.getD j 0)) (decide (ms.length < ns.length)) 0 (min ns.length ms.length))) H) := by
  intro pins s σ H x y v u Q I rx ry h
  obtain ⟨a, b, ns, ms, rfl, rfl, ha, hb, q⟩ := h
  cases rx
  cases ry
  obtain ⟨its, v1, t1, _⟩ := I.tuple ha
  obtain ⟨its2, v2, t2, _⟩ := I.tuple hb
  have i1 := intsAre_of v1
  have i2 := intsAre_of v2
  have n1 : its.toArray.size = ns.length := by rw [List.size_toArray]; exact i1.length
  have n2 : its2.toArray.size = ms.length := by rw [List.size_toArray]; exact i2.length
  have p1 : ∀ j (h1 : j < its.toArray.size), ∃ t, its.toArray[j] = .int (ns.getD j 0) t := fun j h1 => PyProof.Rows.IntsAre.int_at i1 _ _ (by simp at h1; simp [h1])
  have p2 : ∀ j (h1 : j < its2.toArray.size), ∃ t, its2.toArray[j] = .int (ms.getD j 0) t := fun j h1 => PyProof.Rows.IntsAre.int_at i2 _ _ (by simp at h1; simp [h1])
  have z := Ob.RcOp.tuples_gt (A := X.A) (s := s) (e := fun j => decide (ns.getD j 0 = ms.getD j 0)) (r := fun j => decide (ms.getD j 0 < ns.getD j 0)) t1 t2 hu (fun j h1 h2 => by
    obtain ⟨t, et⟩ := p1 j h1
    obtain ⟨t', et'⟩ := p2 j h2
    rw [et, et']
    have y : (ns.getD j 0 == ms.getD j 0) = decide (ns.getD j 0 = ms.getD j 0) := by rw [Bool.eq_iff_iff]; simp
    show SeqAt.EqAt _ _ _ _ (decide (ns.getD j 0 = ms.getD j 0))
    rw [← y]
    exact SeqAt.EqAt.int_int _ _ _ _) (fun j h1 h2 _ => by
    obtain ⟨t, et⟩ := p1 j h1
    obtain ⟨t', et'⟩ := p2 j h2
    rw [et, et']
    exact Ob.RcOp.gt_int _ _ _ _)
  rw [n1, n2] at z
  exact z X.prog X.w X.xe _ ⟨.bl _, H, I, rfl, q⟩
theorem op_gtW (hr : Room k Z.X.A) : OpS Z (compareOp .Gt) gtW := fun G H w1 w2 v1 v2 O1 O2 w Q s r1 r2 e q => by
  cases w1 with
  | int i =>
    cases w2 with
    | int j =>
      cases e
      obtain ⟨_, rfl⟩ := r1
      obtain ⟨_, rfl⟩ := r2
      exact ⟨_, op_gt, i, j, rfl, rfl, q.bl s⟩
    | _ => cases e
  | tup xs =>
    cases w2 with
    | tup ys =>
      have e' : (intsW xs).bind (fun ns => (intsW ys).map fun ms => W.bl (Ob.lexAt (fun j => decide (ns.getD j 0 = ms.getD j 0)) (fun j => decide (ms.getD j 0 < ns.getD j 0)) (decide (ms.length < ns.length)) 0 (min ns.length ms.length))) = some w := e
      cases h1 : intsW xs with
      | none => rw [h1] at e'; cases e'
      | some ns =>
        cases h2 : intsW ys with
        | none => rw [h1, h2] at e'; cases e'
        | some ms =>
          rw [h1, h2] at e'
          cases e'
          obtain ⟨_, a, vs, rfl, t1, f1⟩ := r1
          obtain ⟨_, b, us, rfl, t2, f2⟩ := r2
          rw [intsW_eq h1] at f1
          rw [intsW_eq h2] at f2
          rw [RFs.ints f1] at t1
          rw [RFs.ints f2] at t2
          exact ⟨_, op_gtT hr.units0, a, b, ns, ms, rfl, rfl, s.sqT t1, s.sqT t2, q.bl s⟩
    | _ => cases e
  | _ => cases e
end
end Ev

namespace Ev
open PySem PySem.Spec L2

/-! ### arithmetic -/
def mulOk (i j : Int) : Prop := (-(2 ^ 64) < i ∧ i < 2 ^ 64) ∨ (-(2 ^ 64) < j ∧ j < 2 ^ 64)
noncomputable instance {i j : Int} : Decidable (mulOk i j) := Classical.propDecidable _
def divOk (j : Int) : Prop := 0 < j ∧ j.natAbs.log2 < 9000
noncomputable instance {j : Int} : Decidable (divOk j) := Classical.propDecidable _
def powOk (i j : Int) : Prop := 0 ≤ j ∧ j ≤ 1000000 ∧ i.natAbs < 2 ^ 64
noncomputable instance {i j : Int} : Decidable (powOk i j) := Classical.propDecidable _
def repOk (n : Nat) (k : Int) : Prop := -(2 ^ 63) ≤ k ∧ k < 2 ^ 63 ∧ n * k.toNat ≤ sizeLine
noncomputable instance {n : Nat} {k : Int} : Decidable (repOk n k) := Classical.propDecidable _
def addW (b : Bool) : W → W → Option W
  | .int i, .int j => some (.int (i + j))
  | .int i, .bl c => some (.int (i + PyProof.Rows.b2i c))
  | .str x, .str y => if x.length + y.length ≤ sizeLine then some (.str (x ++ y)) else none
  | .lst _ xs, .lst _ ys => if xs.length + ys.length ≤ sizeLine then some (.lst b (xs ++ ys)) else none
  | .tup xs, .tup ys => if xs ≠ [] ∧ xs.length + ys.length ≤ sizeLine then some (.tup (xs ++ ys)) else none
  | _, _ => none
def subW : W → W → Option W
  | .int i, .int j => some (.int (i - j))
  | _, _ => none
noncomputable def mulW (b : Bool) : W → W → Option W
  | .int i, .int j => if mulOk i j then some (.int (i * j)) else none
  | .lst _ xs, .int k => if repOk xs.length k then some (.lst b (List.replicate k.toNat xs).flatten) else none
  | _, _ => none
noncomputable def fdivW : W → W → Option W
  | .int i, .int j => if divOk j then some (.int (i / j)) else none
  | _, _ => none
def modW : W → W → Option W
  | .int i, .int j => if 0 < j then some (.int (i % j)) else none
  | _, _ => none
noncomputable def powW : W → W → Option W
  | .int i, .int j => if powOk i j then some (.int (i ^ j.toNat)) else none
  | _, _ => none
theorem RFs.append {D : Dn} {G : Hp} : ∀ {xs ys : List W} {vs us : List V}, RFs D G xs vs → RFs D G ys us → RFs D G (xs ++ ys) (vs ++ us)
  | [], _, _, _, h, k => by rw [show _ = [] from h]; exact k
  | x :: xs, _, _, _, h, k => by
    obtain ⟨v, r, rfl, h1, h2⟩ := h
    exact ⟨v, _, rfl, h1, RFs.append h2 k⟩
theorem RFs.reps {D : Dn} {G : Hp} {xs : List W} {vs : List V} (h : RFs D G xs vs) : ∀ k : Nat, RFs D G (List.replicate k xs).flatten (List.replicate k vs).flatten
  | 0 => rfl
  | k + 1 => by
    rw [List.replicate_succ, List.replicate_succ, List.flatten_cons, List.flatten_cons]
    exact h.append (RFs.reps h k)
section
variable {Z : Zt} {k : Nat}
theorem op_addW {b : Bool} : OpS Z (binaryOp .Add) (addW b) := fun G H w1 w2 v1 v2 O1 O2 w Q s r1 r2 e q => by
  cases w1 with
  | int i =>
    cases w2 with
    | int j =>
      cases e
      obtain ⟨_, rfl⟩ := r1
      obtain ⟨_, rfl⟩ := r2
      exact ⟨_, op_add, i, j, rfl, rfl, q.int s⟩
    | bl c =>
      cases e
      obtain ⟨_, rfl⟩ := r1
      obtain ⟨_, rfl⟩ := r2
      exact ⟨_, op_add_ib, i, c, rfl, rfl, q.int s⟩
    | _ => cases e
  | str x =>
    cases w2 with
    | str y =>
      have e' : (if x.length + y.length ≤ sizeLine then some (W.str (x ++ y)) else none) = some w := e
      by_cases hl : x.length + y.length ≤ sizeLine
      · rw [if_pos hl] at e'
        cases e'
        obtain ⟨_, rfl⟩ := r1
        obtain ⟨_, rfl⟩ := r2
        exact ⟨_, op_add_str, x, y, rfl, rfl, hl, q.str s⟩
      · rw [if_neg hl] at e'; cases e'
    | _ => cases e
  | lst b1 xs =>
    cases w2 with
    | lst b2 ys =>
      have e' : (if xs.length + ys.length ≤ sizeLine then some (W.lst b (xs ++ ys)) else none) = some w := e
      by_cases hl : xs.length + ys.length ≤ sizeLine
      · rw [if_pos hl] at e'
        cases e'
        obtain ⟨a1, vs, rfl, h1, f1⟩ := r1.lstAt s
        obtain ⟨a2, us, rfl, h2, f2⟩ := r2.lstAt s
        exact ⟨_, op_cat, a1, a2, vs, us, rfl, rfl, h1, h2, by rw [← f1.len, ← f2.len]; exact hl, fun p n => q.lst s (f1.append f2) n⟩
      · rw [if_neg hl] at e'; cases e'
    | _ => cases e
  | tup xs =>
    cases w2 with
    | tup ys =>
      have e' : (if xs ≠ [] ∧ xs.length + ys.length ≤ sizeLine then some (W.tup (xs ++ ys)) else none) = some w := e
      by_cases hl : xs ≠ [] ∧ xs.length + ys.length ≤ sizeLine
      · rw [if_pos hl] at e'
        cases e'
        obtain ⟨_, a1, vs, rfl, h1, f1⟩ := r1
        obtain ⟨_, a2, us, rfl, h2, f2⟩ := r2
        refine ⟨_, op_catT, a1, a2, vs, us, rfl, rfl, s.sqT h1, s.sqT h2, ?_, by rw [← f1.len, ← f2.len]; exact hl.2, fun e0 => ?_, fun _ p n => q.tup s (f1.append f2) n⟩
        · intro z
          have := f1.len
          rw [z] at this
          exact hl.1 (List.eq_nil_of_length_eq_zero this)
        · have h0 : ys = [] := List.eq_nil_of_length_eq_zero (by rw [f2.len, e0]; rfl)
          subst h0
          rw [List.append_nil] at q
          exact q.fro s (show RF Z.D G (.tup xs) (.ref a1) from ⟨a1, vs, rfl, h1, f1⟩)
      · rw [if_neg hl] at e'; cases e'
    | _ => cases e
  | _ => cases e
theorem op_subW : OpS Z (binaryOp .Sub) subW := fun G H w1 w2 v1 v2 O1 O2 w Q s r1 r2 e q => by
  cases w1 with
  | int i =>
    cases w2 with
    | int j =>
      cases e
      obtain ⟨_, rfl⟩ := r1
      obtain ⟨_, rfl⟩ := r2
      exact ⟨_, op_sub, i, j, rfl, rfl, q.int s⟩
    | _ => cases e
  | _ => cases e
theorem op_mulW {b : Bool} : OpS Z (binaryOp .Mult) (mulW b) := fun G H w1 w2 v1 v2 O1 O2 w Q s r1 r2 e q => by
  cases w1 with
  | int i =>
    cases w2 with
    | int j =>
      have e' : (if mulOk i j then some (W.int (i * j)) else none) = some w := e
      by_cases hl : mulOk i j
      · rw [if_pos hl] at e'
        cases e'
        obtain ⟨_, rfl⟩ := r1
        obtain ⟨_, rfl⟩ := r2
        exact ⟨_, op_mul, i, j, rfl, rfl, hl, q.int s⟩
      · rw [if_neg hl] at e'; cases e'
    | _ => cases e
  | lst b1 xs =>
    cases w2 with
    | int j =>
      have e' : (if repOk xs.length j then some (W.lst b (List.replicate j.toNat xs).flatten) else none) = some w := e
      by_cases hl : repOk xs.length j
      · rw [if_pos hl] at e'
        cases e'
        obtain ⟨a1, vs, rfl, h1, f1⟩ := r1.lstAt s
        obtain ⟨_, rfl⟩ := r2
        obtain ⟨l1, l2, l3⟩ := hl
        exact ⟨_, op_rep, a1, j, vs, rfl, rfl, h1, l1, l2, by rw [← f1.len]; exact l3, fun p n => q.lst s (f1.reps _) n⟩
      · rw [if_neg hl] at e'; cases e'
    | _ => cases e
  | _ => cases e
theorem op_fdivW' : OpS Z (binaryOp .FloorDiv) fdivW := fun G H w1 w2 v1 v2 O1 O2 w Q s r1 r2 e q => by
  cases w1 with
  | int i =>
    cases w2 with
    | int j =>
      have e' : (if divOk j then some (W.int (i / j)) else none) = some w := e
      by_cases hl : divOk j
      · rw [if_pos hl] at e'
        cases e'
        obtain ⟨_, rfl⟩ := r1
        obtain ⟨_, rfl⟩ := r2
        exact ⟨_, op_fdivW, i, j, rfl, rfl, hl, q.int s⟩
      · rw [if_neg hl] at e'; cases e'
    | _ => cases e
  | _ => cases e
theorem op_modW : OpS Z (binaryOp .Mod) modW := fun G H w1 w2 v1 v2 O1 O2 w Q s r1 r2 e q => by
  cases w1 with
  | int i =>
    cases w2 with
    | int j =>
      have e' : (if 0 < j then some (W.int (i % j)) else none) = some w := e
      by_cases hl : 0 < j
      · rw [if_pos hl] at e'
        cases e'
        obtain ⟨_, rfl⟩ := r1
        obtain ⟨_, rfl⟩ := r2
        exact ⟨_, op_mod, i, j, rfl, rfl, hl, q.int s⟩
      · rw [if_neg hl] at e'; cases e'
    | _ => cases e
  | _ => cases e
theorem op_powW : OpS Z (binaryOp .Pow) powW := fun G H w1 w2 v1 v2 O1 O2 w Q s r1 r2 e q => by
  cases w1 with
  | int i =>
    cases w2 with
    | int j =>
      have e' : (if powOk i j then some (W.int (i ^ j.toNat)) else none) = some w := e
      by_cases hl : powOk i j
      · rw [if_pos hl] at e'
        cases e'
        obtain ⟨_, rfl⟩ := r1
        obtain ⟨_, rfl⟩ := r2
        exact ⟨_, op_pow, i, j, rfl, rfl, hl, q.int s⟩
      · rw [if_neg hl] at e'; cases e'
    | _ => cases e
  | _ => cases e

/-! ### items, parts -/
def ixW : W → W → Option W
  | .lst _ xs, .int i => atI xs i
  | .scr xs, .int i => atI xs i
  | .tup xs, .int i => atI xs i
  | .str z, .int i => if z.length ≤ sizeLine then (atI z.cps.toList i).map fun c => .str ⟨#[c]⟩ else none
  | _, _ => none
def ixAny (X : Cx) : R2 := fun x y H Q => ∃ r : R2, IxR X r ∧ r x y H Q
theorem ix_any {X : Cx} : IxR X (ixAny X) := fun value slice pins s σ H x y v u Q I rx ry ⟨r, ho, q⟩ => ho value slice pins s σ H x y v u Q I rx ry q
theorem RFs.get {D : Dn} {G : Hp} : ∀ {ws : List W} {vs : List V} {i : Nat} {w : W}, RFs D G ws vs → ws[i]? = some w → ∃ v, vs[i]? = some v ∧ RF D G w v
  | [], _, _, _, _, e => by simp at e
  | _ :: _, _, 0, _, h, e => by
    obtain ⟨v, r, rfl, h1, h2⟩ := h
    rw [← Option.some.inj e]
    exact ⟨v, rfl, h1⟩
  | _ :: ws, _, i + 1, _, h, e => by
    obtain ⟨v, r, rfl, h1, h2⟩ := h
    exact RFs.get (i := i) h2 e
theorem RFs.atI {D : Dn} {G : Hp} {ws : List W} {vs : List V} {i : Int} {w : W} (h : RFs D G ws vs) (e : L2.atI ws i = some w) : ∃ v, L2.atI vs i = some v ∧ RF D G w v := by
  unfold L2.atI at e ⊢
  rw [h.len] at e
  cases hn : ixN vs.length i with
  | none => rw [hn] at e; cases e
  | some j =>
    rw [hn] at e
    exact h.get e
theorem rel_ixW : RelS Z.D (ixAny Z.X) ixW := fun G H w1 w2 v1 v2 O1 O2 w Q s r1 r2 e q => by
  cases w1 with
  | lst b xs =>
    cases w2 with
    | int i =>
      obtain ⟨a1, vs, rfl, h1, f1⟩ := r1.lstAt s
      obtain ⟨_, rfl⟩ := r2
      obtain ⟨v, h2, r⟩ := f1.atI e
      exact ⟨_, ix_list, a1, vs, i, v, rfl, rfl, SqL.of h1, h2, q.fro s r⟩
    | _ => cases e
  | scr xs =>
    cases w2 with
    | int i =>
      obtain ⟨_, a1, vs, rfl, h1, f1⟩ := r1
      obtain ⟨_, rfl⟩ := r2
      obtain ⟨v, h2, r⟩ := f1.atI e
      exact ⟨_, ix_list, a1, vs, i, v, rfl, rfl, s.sqL h1, h2, q.fro s r⟩
    | _ => cases e
  | tup xs =>
    cases w2 with
    | int i =>
      obtain ⟨_, a1, vs, rfl, h1, f1⟩ := r1
      obtain ⟨_, rfl⟩ := r2
      obtain ⟨v, h2, r⟩ := f1.atI e
      exact ⟨_, ix_tup, a1, vs, i, v, rfl, rfl, s.sqT h1, h2, q.fro s r⟩
    | _ => cases e
  | str z =>
    cases w2 with
    | int i =>
      have e' : (if z.length ≤ sizeLine then (L2.atI z.cps.toList i).map fun c => W.str ⟨#[c]⟩ else none) = some w := e
      by_cases hl : z.length ≤ sizeLine
      · rw [if_pos hl] at e'
        cases hc : L2.atI z.cps.toList i with
        | none => rw [hc] at e'; cases e'
        | some c =>
          rw [hc] at e'
          cases e'
          obtain ⟨_, rfl⟩ := r1
          obtain ⟨_, rfl⟩ := r2
          exact ⟨_, ix_str, z, i, c, rfl, rfl, hl, hc, q.str s⟩
      · rw [if_neg hl] at e'; cases e'
    | _ => cases e
  | _ => cases e
theorem me_ix {a b : Expr} {m1 m2 : Sm W} {p1 p2 k1 k2 : Bool} {pos : Pos} (ha : ME Z a m1 p1 k1) (hb : ME Z b m2 p2 k2) (hs : PlainIx b := by exact fun _ _ => rfl) : ME Z (.Subscript a b pos) (mBin ixW (k1 || p2) m1 m2) (p1 && p2) true :=
  pe_imp (pe_ix ix_any ha hb hs) fun _ _ _ h => tx_bin rel_ixW h

/-- a part: lo, hi as numbers or left out; f by the two -/
def TOo (D : Dn) (Wx : WX) (p : Bool) (m : Sm (Option Int)) : TO := fun σ H Q => ∃ (env : List W) (G : Hp) (Os : List (List Addr)), StOk D G H env σ Os ∧ match m env with
  | .ok o env' => ∀ G' H' Os', StOk D G' H' env' σ Os' → Stp p env G H Os env' G' H' Os' [] → Q o H'
  | .ex c env' => ∀ G' H' Os', StOk D G' H' env' σ Os' → Stp p env G H Os env' G' H' Os' [] → Wx (.ref (D.CA c)) none σ H'
  | .bad => False
abbrev MO (Z : Zt) (e : Option Expr) (m : Sm (Option Int)) (p : Bool) : Prop := PO Z.X e (TOo Z.D Z.W p m)
theorem po_imp {X : Cx} {e : Option Expr} {t t' : TO} (h : PO X e t) (i : ∀ σ H Q, t' σ H Q → t σ H Q) : PO X e t' := ⟨fun pins s σ H Q I w => h.run pins s σ H Q I (i σ H Q w)⟩
def mNo : Sm (Option Int) := Sm.ret none
def intW : W → Option Int
  | .int i => some i
  | _ => none
def mPart (m : Sm W) : Sm (Option Int) := Sm.bind m fun w => lft ((intW w).map some)
theorem mo_no : MO Z none mNo true := po_imp po_none fun σ H Q q => by
  obtain ⟨env, G, Os, s, q⟩ := q
  exact q G H Os s (Stp.id true)
theorem mo_some {e : Expr} {m : Sm W} {p k : Bool} (h : ME Z e m p k) : MO Z (some e) (mPart m) p := po_imp (po_some h) fun σ H Q q => by
  obtain ⟨env, G, Os, s, q⟩ := q
  refine ⟨env, G, Os, s, ?_⟩
  unfold mPart Sm.bind lft at q
  cases e1 : m env with
  | bad => rw [e1] at q; exact q
  | ex c env1 => rw [e1] at q; exact q
  | ok w env1 =>
    rw [e1] at q
    intro v G' H' Os' Ow s' r o t
    cases w with
    | int i =>
      obtain ⟨_, rfl⟩ := r
      exact ⟨i, rfl, q G' H' Os' s' (t.less kO_less)⟩
    | _ => exact q.elim
def cutL {α : Type} (xs : List α) (lo hi : Option Int) : List α := (xs.drop (HT.sIx xs.length 0 lo)).take (HT.sIx xs.length xs.length hi - HT.sIx xs.length 0 lo)
def cutW (b : Bool) : W → Option Int → Option Int → Option W
  | .lst _ xs, lo, hi => some (.lst b (cutL xs lo hi))
  | .scr xs, lo, hi => some (.lst b (cutL xs lo hi))
  | .str z, lo, hi => if z.length ≤ sizeLine then some (.str (cutS z lo hi)) else none
  | _, _, _ => none
theorem RFs.drop {D : Dn} {G : Hp} : ∀ {ws : List W} {vs : List V} (n : Nat), RFs D G ws vs → RFs D G (ws.drop n) (vs.drop n)
  | _, _, 0, h => h
  | [], _, n + 1, h => by rw [show _ = [] from h]; rfl
  | _ :: ws, _, n + 1, h => by
    obtain ⟨v, r, rfl, h1, h2⟩ := h
    exact RFs.drop n h2
theorem RFs.take {D : Dn} {G : Hp} : ∀ {ws : List W} {vs : List V} (n : Nat), RFs D G ws vs → RFs D G (ws.take n) (vs.take n)
  | _, _, 0, h => rfl
  | [], _, n + 1, h => by rw [show _ = [] from h]; rfl
  | _ :: ws, _, n + 1, h => by
    obtain ⟨v, r, rfl, h1, h2⟩ := h
    exact ⟨v, _, rfl, h1, RFs.take n h2⟩
theorem RFs.cut {D : Dn} {G : Hp} {ws : List W} {vs : List V} (lo hi : Option Int) (h : RFs D G ws vs) : RFs D G (cutL ws lo hi) (cutV vs lo hi) := by
  unfold cutL cutV
  rw [h.len]
  exact (h.drop _).take _
def slAny (X : Cx) : V → Option Int → Option Int → Hp → VK → Prop := fun x lo hi H Q => ∃ r, SlR X r ∧ r x lo hi H Q
theorem sl_any {X : Cx} : SlR X (slAny X) := fun pins s σ H x v vl vu lo hi sl Q I rx h1 h2 h3 ⟨r, ho, q⟩ => ho pins s σ H x v vl vu lo hi sl Q I rx h1 h2 h3 q
def mSlice (b g : Bool) (m : Sm W) (ml mh : Sm (Option Int)) : Sm W := Sm.bind m fun w => Sm.bind ml fun lo => Sm.bind mh fun hi => if (g || w.frz) = true then lft (cutW b w lo hi) else fun _ => .bad
theorem rel_cutW {b : Bool} {G H : Hp} {w1 : W} {v1 : V} {O1 : List Addr} {w : W} {lo hi : Option Int} {Q : VK} (s : Sub G H) (r1 : RO Z.D G H w1 v1 O1) (e : cutW b w1 lo hi = some w) (q : Ans Z.D G H w Q) : slAny Z.X v1 lo hi H Q := by
  cases w1 with
  | lst b1 xs =>
    cases e
    obtain ⟨a1, vs, rfl, h1, f1⟩ := r1.lstAt s
    exact ⟨_, sl_list, a1, vs, rfl, SqL.of h1, fun p n => q.lst s (f1.cut lo hi) n⟩
  | scr xs =>
    cases e
    obtain ⟨_, a1, vs, rfl, h1, f1⟩ := r1
    exact ⟨_, sl_list, a1, vs, rfl, s.sqL h1, fun p n => q.lst s (f1.cut lo hi) n⟩
  | str z =>
    have e' : (if z.length ≤ sizeLine then some (W.str (cutS z lo hi)) else none) = some w := e
    by_cases hl : z.length ≤ sizeLine
    · rw [if_pos hl] at e'
      cases e'
      obtain ⟨_, rfl⟩ := r1
      exact ⟨_, sl_str, z, rfl, hl, q.str s⟩
    · rw [if_neg hl] at e'; cases e'
  | _ => cases e
theorem me_slice (b : Bool) {e : Expr} {lo hi : Option Expr} {m : Sm W} {ml mh : Sm (Option Int)} {p p1 p2 k1 : Bool} {q1 q2 : Pos} (he : ME Z e m p k1) (hl : MO Z lo ml p1) (hh : MO Z hi mh p2) :
    ME Z (.Subscript e (.Slice lo hi none q1) q2) (mSlice b (k1 || (p1 && p2)) m ml mh) (p && (p1 && p2)) true := pe_imp (pe_slice sl_any he hl hh) fun σ H Q hq => by
  obtain ⟨env, G, Os, s, hq⟩ := hq
  refine ⟨env, G, Os, s, ?_⟩
  unfold mSlice Sm.bind at hq
  cases e1 : m env with
  | bad => rw [e1] at hq; exact hq
  | ex c env1 =>
    rw [e1] at hq
    intro G' H' Os' s' t
    exact hq G' H' Os' s' (t.and _)
  | ok w1 env1 =>
    rw [e1] at hq
    intro v1 G1 H1 Os1 O1 s1 r1 o1 t1
    refine ⟨env1, G1, Os1, s1, ?_⟩
    cases e2 : ml env1 with
    | bad => simp only [e2] at hq
    | ex c env2 =>
      simp only [e2] at hq
      intro G' H' Os' s' t
      refine hq G' H' Os' s' ?_
      rw [← Bool.and_assoc]
      exact (t1.trans t).and _
    | ok lo env2 =>
      simp only [e2] at hq
      intro G2 H2 Os2 s2 t2
      refine ⟨env2, G2, Os2, s2, ?_⟩
      cases e3 : mh env2 with
      | bad => simp only [e3] at hq
      | ex c env3 =>
        simp only [e3] at hq
        intro G' H' Os' s' t
        exact hq G' H' Os' s' (t1.trans (t2.trans t))
      | ok hi env3 =>
        simp only [e3] at hq
        intro G3 H3 Os3 s3 t3
        by_cases hg : (k1 || (p1 && p2) || w1.frz) = true
        · rw [if_pos hg] at hq
          unfold lft at hq
          cases ef : cutW b w1 lo hi with
          | none => rw [ef] at hq; exact hq.elim
          | some w =>
            rw [ef] at hq
            have r1' := stay s1 r1 o1 (t2.trans t3) hg
            exact rel_cutW s3.sub r1' ef (Ans.of (p := p && (p1 && p2)) s3 (t1.trans (t2.trans t3)) hq)
        · rw [if_neg hg] at hq
          exact hq.elim
/-- xs[::-1] -/
def revW (b : Bool) : W → Option W
  | .lst _ xs => some (.lst b xs.reverse)
  | _ => none
theorem RFs.rev {D : Dn} {G : Hp} : ∀ {ws : List W} {vs : List V}, RFs D G ws vs → RFs D G ws.reverse vs.reverse
  | [], _, h => by rw [show _ = [] from h]; rfl
  | w :: ws, _, h => by
    obtain ⟨v, r, rfl, h1, h2⟩ := h
    rw [List.reverse_cons, List.reverse_cons]
    exact (RFs.rev h2).append ⟨v, [], rfl, h1, rfl⟩
theorem me_rev (b : Bool) {e : Expr} {m : Sm W} {p k1 : Bool} {j : Nat} {q1 q2 q3 q4 : Pos} (he : ME Z e m p k1) : ME Z (.Subscript e (.Slice none none (some (.UnaryOp .USub (.Constant (.int 1) j q1) q2)) q3) q4) (mUn (revW b) m) p true :=
  pe_imp (pe_revL he) fun σ H Q hq => tx_un (r := fun x H1 Q => ∃ a xs, x = .ref a ∧ SqL Z.X.K H1 a xs ∧ ∀ p, H1 p = none → Q (.ref p) (upd H1 p (.lst xs.reverse))) (fun G H w1 v1 O1 w Q s r1 e q => by
    cases w1 with
    | lst b1 xs =>
      cases e
      obtain ⟨a1, vs, rfl, h1, f1⟩ := r1.lstAt s
      exact ⟨a1, vs, rfl, SqL.of h1, fun p n => q.lst s f1.rev n⟩
    | _ => cases e) hq
end
end Ev

namespace Ev
open PySem PySem.Spec L2

/-! ### built-in functions of one argument -/
def clAny (X : Cx) (f : Value) : List V → Hp → VK → Prop := fun xs H Q => ∃ r, CallR X f r ∧ r xs H Q
theorem cl_any {X : Cx} {f : Value} : CallR X f (clAny X f) := fun pins s σ H xs us Q I rx ⟨r, ho, q⟩ => ho pins s σ H xs us Q I rx q
section
variable {Z : Zt} {k : Nat} {e : Expr} {m : Sm W} {p k1 : Bool} {p1 p2 : Pos}
theorem me_b1 {x : Str} {id : String} {f : W → Option W} (o : RelU Z.D (fun v => clAny Z.X (.builtin id) [v]) f) (hg : Gl Z.X x) (hm : Z.X.mg x = none) (hv : bootBuiltins x = some (.builtin id)) (ha : ME Z e m p k1) (hn : x ≠ "__name__" := by decide) (hdb : (x == ("__debug__" : Str)) = false := by decide)
    (hs : starEach [e] Z.X.env = (false, eval e Z.X.env) :: starEach [] Z.X.env := by rfl) : ME Z (.Call (.Name x p1) [e] [] p2) (mUn f m) p true :=
  pe_imp (pe_callB cl_any hg hm hv (pa_cons ha pa_nil hs) hn hdb hs rfl) fun _ _ _ q => tx_un o q
theorem me_t1 {x : Str} {id : String} {f : W → Option W} (o : RelU Z.D (fun v => clAny Z.X (.type id) [v]) f) (hg : Gl Z.X x) (hm : Z.X.mg x = none) (hv : bootBuiltins x = some (.type id)) (ha : ME Z e m p k1) (hn : x ≠ "__name__" := by decide) (hdb : (x == ("__debug__" : Str)) = false := by decide)
    (hs : starEach [e] Z.X.env = (false, eval e Z.X.env) :: starEach [] Z.X.env := by rfl) : ME Z (.Call (.Name x p1) [e] [] p2) (mUn f m) p true :=
  pe_imp (pe_callTy cl_any hg hm hv (pa_cons ha pa_nil hs) hn hdb hs rfl) fun _ _ _ q => tx_un o q
/-- the items of a thing that is a list or a tuple -/
def seqW : W → Option (List W)
  | .lst _ ws => some ws
  | .scr ws => some ws
  | .tup ws => some ws
  | _ => none
theorem seqW_at {D : Dn} {G H : Hp} {w : W} {v : V} {O : List Addr} {ws : List W} (s : Sub G H) (r : RO D G H w v O) (e : seqW w = some ws) : ∃ a vs, v = .ref a ∧ (SqL D.K H a vs ∨ SqT D.K H a vs) ∧ RFs D G ws vs := by
  cases w with
  | lst b xs =>
    cases e
    obtain ⟨a, vs, rfl, h1, h2⟩ := r.lstAt s
    exact ⟨a, vs, rfl, .inl (SqL.of h1), h2⟩
  | scr xs =>
    cases e
    obtain ⟨_, a, vs, rfl, h1, h2⟩ := r
    exact ⟨a, vs, rfl, .inl (s.sqL h1), h2⟩
  | tup xs =>
    cases e
    obtain ⟨_, a, vs, rfl, h1, h2⟩ := r
    exact ⟨a, vs, rfl, .inr (s.sqT h1), h2⟩
  | _ => cases e
def lisW : W → Option (List W)
  | .lst _ ws => some ws
  | .scr ws => some ws
  | _ => none
theorem lisW_at {D : Dn} {G H : Hp} {w : W} {v : V} {O : List Addr} {ws : List W} (s : Sub G H) (r : RO D G H w v O) (e : lisW w = some ws) : ∃ a vs, v = .ref a ∧ SqL D.K H a vs ∧ RFs D G ws vs := by
  cases w with
  | lst b xs =>
    cases e
    obtain ⟨a, vs, rfl, h1, h2⟩ := r.lstAt s
    exact ⟨a, vs, rfl, SqL.of h1, h2⟩
  | scr xs =>
    cases e
    obtain ⟨_, a, vs, rfl, h1, h2⟩ := r
    exact ⟨a, vs, rfl, s.sqL h1, h2⟩
  | _ => cases e
/-- the list at an owned list of any kind: how long -/
theorem ROs.len {D : Dn} {G H : Hp} : ∀ {ws : List W} {vs : List V} {O : List Addr}, ROs D G H ws vs O → ws.length = vs.length
  | [], _, _, h => by rw [h.1]; rfl
  | w :: ws, _, _, h => by
    obtain ⟨v, r, O1, O2, rfl, rfl, h1, h2⟩ := h
    simp [ROs.len h2]
def lenW : W → Option W
  | .str z => if z.length ≤ sizeLine then some (.int z.length) else none
  | .nst ws => some (.int ws.length)
  | w => (seqW w).map fun ws => .int ws.length
theorem me_len (hm : Z.X.mg "len" = none) (ha : ME Z e m p k1) (hg : Gl Z.X "len" := by rfl) (hs : starEach [e] Z.X.env = (false, eval e Z.X.env) :: starEach [] Z.X.env := by rfl) : ME Z (.Call (.Name "len" p1) [e] [] p2) (mUn lenW m) p true :=
  me_b1 (fun G H w1 v1 O1 w Q s r e q => by
    by_cases hz : ∃ z, w1 = .str z
    · obtain ⟨z, rfl⟩ := hz
      have e' : (if z.length ≤ sizeLine then some (W.int z.length) else none) = some w := e
      by_cases hl : z.length ≤ sizeLine
      · rw [if_pos hl] at e'
        cases e'
        obtain ⟨_, rfl⟩ := r
        exact ⟨_, call_len_str, z, rfl, hl, q.int s⟩
      · rw [if_neg hl] at e'; cases e'
    · by_cases hn : ∃ ws, w1 = .nst ws
      · obtain ⟨ws, rfl⟩ := hn
        cases e
        obtain ⟨a, vs, O', rfl, rfl, h1, h2⟩ := r
        refine ⟨_, call_len_seq, a, vs, rfl, .inl (SqL.of h1), ?_⟩
        rw [← h2.len]
        exact q.int s
      · have e' : (seqW w1).map (fun ws => W.int ws.length) = some w := by
          cases w1 <;> first
            | exact absurd ⟨_, rfl⟩ hz
            | exact absurd ⟨_, rfl⟩ hn
            | exact e
        cases h : seqW w1 with
        | none => rw [h] at e'; cases e'
        | some ws =>
          rw [h] at e'
          cases e'
          obtain ⟨a, vs, rfl, h1, h2⟩ := seqW_at s r h
          refine ⟨_, call_len_seq, a, vs, rfl, h1, ?_⟩
          rw [← h2.len]
          exact q.int s) hg hm PySem.boot_len ha (by decide) (by decide) hs
/-- sum, max, min of a list of ints -/
def sumW (w : W) : Option W := (lisW w).bind fun ws => (intsW ws).map fun ns => .int ns.sum
theorem me_sum (hc : Z.X.calm = true) (hm : Z.X.mg "sum" = none) (ha : ME Z e m p k1) (hg : Gl Z.X "sum" := by rfl) (hs : starEach [e] Z.X.env = (false, eval e Z.X.env) :: starEach [] Z.X.env := by rfl) : ME Z (.Call (.Name "sum" p1) [e] [] p2) (mUn sumW m) p true :=
  me_b1 (fun G H w1 v1 O1 w Q s r e q => by
    unfold sumW at e
    cases h : lisW w1 with
    | none => rw [h] at e; cases e
    | some ws =>
      cases h2 : intsW ws with
      | none => rw [h, Option.bind_some, h2] at e; cases e
      | some ns =>
        rw [h, Option.bind_some, h2] at e
        cases e
        obtain ⟨a, vs, rfl, h3, h4⟩ := lisW_at s r h
        rw [intsW_eq h2] at h4
        rw [RFs.ints h4] at h3
        exact ⟨_, cr_sum hc, a, ns, rfl, h3, q.int s⟩) hg hm PyProof.Rows.boot_sum ha (by decide) (by decide) hs
def maxL : List Int → Int
  | [] => 0
  | x :: xs => xs.foldl max x
theorem foldl_max_ge : ∀ (xs : List Int) (x : Int), x ≤ xs.foldl max x ∧ ∀ y ∈ xs, y ≤ xs.foldl max x
  | [], x => ⟨Int.le_refl _, fun _ z => nomatch z⟩
  | z :: zs, x => by
    obtain ⟨h1, h2⟩ := foldl_max_ge zs (max x z)
    have h3 := Int.le_max_left x z
    have h4 := Int.le_max_right x z
    refine ⟨Int.le_trans h3 h1, fun y hy => ?_⟩
    rcases List.mem_cons.mp hy with rfl | hy
    · exact Int.le_trans h4 h1
    · exact h2 y hy
theorem foldl_max_mem : ∀ (xs : List Int) (x : Int), xs.foldl max x = x ∨ xs.foldl max x ∈ xs
  | [], x => .inl rfl
  | z :: zs, x => by
    rcases foldl_max_mem zs (max x z) with h | h
    · rw [List.foldl_cons, h]
      rcases Int.le_total x z with l | l
      · rw [Int.max_eq_right l]; exact .inr List.mem_cons_self
      · rw [Int.max_eq_left l]; exact .inl rfl
    · exact .inr (List.mem_cons_of_mem _ h)
theorem maxL_mem {ns : List Int} (h : ns ≠ []) : maxL ns ∈ ns := by
  cases ns with
  | nil => exact absurd rfl h
  | cons x xs =>
    rcases foldl_max_mem xs x with e | e
    · show xs.foldl max x ∈ _
      rw [e]; exact List.mem_cons_self
    · exact List.mem_cons_of_mem _ e
theorem maxL_ge {ns : List Int} : ∀ y ∈ ns, y ≤ maxL ns := by
  cases ns with
  | nil => exact fun _ z => nomatch z
  | cons x xs =>
    intro y hy
    obtain ⟨h1, h2⟩ := foldl_max_ge xs x
    rcases List.mem_cons.mp hy with rfl | hy
    · exact h1
    · exact h2 y hy
def maxW (w : W) : Option W := (lisW w).bind fun ws => (intsW ws).bind fun ns => if ns = [] then none else some (.int (maxL ns))
theorem me_maxL (hc : Z.X.calm = true) (hm : Z.X.mg "max" = none) (ha : ME Z e m p k1) (hg : Gl Z.X "max" := by rfl) (hs : starEach [e] Z.X.env = (false, eval e Z.X.env) :: starEach [] Z.X.env := by rfl) : ME Z (.Call (.Name "max" p1) [e] [] p2) (mUn maxW m) p true :=
  me_b1 (fun G H w1 v1 O1 w Q s r e q => by
    unfold maxW at e
    cases h : lisW w1 with
    | none => rw [h] at e; cases e
    | some ws =>
      cases h2 : intsW ws with
      | none => rw [h, Option.bind_some, h2] at e; cases e
      | some ns =>
        rw [h, Option.bind_some, h2, Option.bind_some] at e
        by_cases h0 : ns = []
        · rw [if_pos h0] at e; cases e
        · rw [if_neg h0] at e
          cases e
          obtain ⟨a, vs, rfl, h3, h4⟩ := lisW_at s r h
          rw [intsW_eq h2] at h4
          rw [RFs.ints h4] at h3
          refine ⟨_, cr_max hc, a, ns, rfl, h3, List.length_pos_iff.mpr h0, fun mm hm1 hm2 => ?_⟩
          have : mm = maxL ns := Int.le_antisymm (maxL_ge mm hm1) (hm2 _ (maxL_mem h0))
          rw [this]
          exact q.int s) hg hm PyProof.Rows.boot_max ha (by decide) (by decide) hs
def absW : W → Option W
  | .int i => some (.int (if i < 0 then -i else i))
  | _ => none
theorem me_abs (hm : Z.X.mg "abs" = none) (ha : ME Z e m p k1) (hg : Gl Z.X "abs" := by rfl) (hs : starEach [e] Z.X.env = (false, eval e Z.X.env) :: starEach [] Z.X.env := by rfl) : ME Z (.Call (.Name "abs" p1) [e] [] p2) (mUn absW m) p true :=
  me_b1 (fun G H w1 v1 O1 w Q s r e q => by
    cases w1 with
    | int i =>
      cases e
      obtain ⟨_, rfl⟩ := r
      exact ⟨_, call_abs, i, rfl, q.int s⟩
    | _ => cases e) hg hm PyProof.Rows.boot_abs ha (by decide) (by decide) hs
def toIntW : W → Option W
  | .int i => some (.int i)
  | .bl b => some (.int (if b = true then 1 else 0))
  | .str z => if z.length ≤ 640 then (intText? z).map .int else none
  | _ => none
theorem me_intOf (hc : Z.X.calm = true) (hm : Z.X.mg "int" = none) (ha : ME Z e m p k1) (hg : Gl Z.X "int" := by rfl) (hs : starEach [e] Z.X.env = (false, eval e Z.X.env) :: starEach [] Z.X.env := by rfl) : ME Z (.Call (.Name "int" p1) [e] [] p2) (mUn toIntW m) p true :=
  me_t1 (fun G H w1 v1 O1 w Q s r e q => by
    cases w1 with
    | int i =>
      cases e
      obtain ⟨_, rfl⟩ := r
      exact ⟨_, call_int1, .inl ⟨i, rfl, q.int s⟩⟩
    | bl b =>
      cases e
      obtain ⟨_, rfl⟩ := r
      exact ⟨_, call_int1, .inr ⟨b, rfl, q.int s⟩⟩
    | str z =>
      have e' : (if z.length ≤ 640 then (intText? z).map W.int else none) = some w := e
      by_cases hl : z.length ≤ 640
      · rw [if_pos hl] at e'
        cases h : intText? z with
        | none => rw [h] at e'; cases e'
        | some n =>
          rw [h] at e'
          cases e'
          obtain ⟨_, rfl⟩ := r
          exact ⟨_, call_int_str, z, n, rfl, h, hl, q.int s⟩
      · rw [if_neg hl] at e'; cases e'
    | _ => cases e) hg hm PyProof.Rows.boot_int ha (by decide) (by decide) hs
def strOfW : W → Option W
  | .int i => if i.natAbs.log2 < 1920 then some (.str (toString i)) else none
  | _ => none
theorem me_strOf (hm : Z.X.mg "str" = none) (ha : ME Z e m p k1) (hg : Gl Z.X "str" := by rfl) (hs : starEach [e] Z.X.env = (false, eval e Z.X.env) :: starEach [] Z.X.env := by rfl) : ME Z (.Call (.Name "str" p1) [e] [] p2) (mUn strOfW m) p true :=
  me_t1 (fun G H w1 v1 O1 w Q s r e q => by
    cases w1 with
    | int i =>
      have e' : (if i.natAbs.log2 < 1920 then some (W.str (toString i)) else none) = some w := e
      by_cases hl : i.natAbs.log2 < 1920
      · rw [if_pos hl] at e'
        cases e'
        obtain ⟨_, rfl⟩ := r
        exact ⟨_, call_str_int, i, rfl, hl, q.str s⟩
      · rw [if_neg hl] at e'; cases e'
    | _ => cases e) hg hm PyProof.Rows.boot_str ha (by decide) (by decide) hs
/-- list(x), tuple(x) -/
def listOfW (b : Bool) (w : W) : Option W := (seqW w).map (.lst b ·)
theorem me_listOf (b : Bool) (hm : Z.X.mg "list" = none) (ha : ME Z e m p k1) (hg : Gl Z.X "list" := by rfl) (hs : starEach [e] Z.X.env = (false, eval e Z.X.env) :: starEach [] Z.X.env := by rfl) : ME Z (.Call (.Name "list" p1) [e] [] p2) (mUn (listOfW b) m) p true :=
  me_t1 (fun G H w1 v1 O1 w Q s r e q => by
    unfold listOfW at e
    cases h : seqW w1 with
    | none => rw [h] at e; cases e
    | some ws =>
      rw [h] at e
      cases e
      obtain ⟨a, vs, rfl, h3, h4⟩ := seqW_at s r h
      exact ⟨_, call_list_of, a, vs, rfl, h3, fun l n => q.lst s h4 n⟩) hg hm PyProof.Rows.boot_list ha (by decide) (by decide) hs
def tupOfW : W → Option W
  | .tup ws => some (.tup ws)
  | w => (lisW w).map .tup
theorem me_tupOf (hm : Z.X.mg "tuple" = none) (ha : ME Z e m p k1) (hg : Gl Z.X "tuple" := by rfl) (hs : starEach [e] Z.X.env = (false, eval e Z.X.env) :: starEach [] Z.X.env := by rfl) : ME Z (.Call (.Name "tuple" p1) [e] [] p2) (mUn tupOfW m) p true :=
  me_t1 (fun G H w1 v1 O1 w Q s r e q => by
    by_cases ht : ∃ ws, w1 = .tup ws
    · obtain ⟨ws, rfl⟩ := ht
      cases e
      obtain ⟨_, a, vs, rfl, h1, h2⟩ := r
      exact ⟨_, call_tuple_of, a, vs, rfl, .inr ⟨s.sqT h1, q.fro s (show RF Z.D G (.tup ws) (.ref a) from ⟨a, vs, rfl, h1, h2⟩)⟩⟩
    · have e' : (lisW w1).map W.tup = some w := by
        cases w1 <;> first
          | exact absurd ⟨_, rfl⟩ ht
          | exact e
      cases h : lisW w1 with
      | none => rw [h] at e'; cases e'
      | some ws =>
        rw [h] at e'
        cases e'
        obtain ⟨a, vs, rfl, h3, h4⟩ := lisW_at s r h
        exact ⟨_, call_tuple_of, a, vs, rfl, .inl ⟨h3, fun l n => q.tup s h4 n⟩⟩) hg hm PyProof.Rows.boot_tuple ha (by decide) (by decide) hs

/-! ### sorted -/
def leD (a b : W) : Bool := PySem.W.dataLe false W.dat a b
def SortOk (ws : List W) : Prop := PySem.W.AllAlike (ws.map W.dat) ∧ PySem.W.Sortable (ws.map W.dat) ∧ ws.length ≤ sizeLine ∧ ∀ w ∈ ws, w.dat.depth ≤ 60
open Classical in
noncomputable def sortedW (b : Bool) (w : W) : Option W := (lisW w).bind fun ws => if SortOk ws then some (.lst b (ws.mergeSort leD)) else none
theorem RFs.pairs {D : Dn} {G : Hp} : ∀ {ws : List W} {vs : List V}, RFs D G ws vs → ∃ ps : List (V × W), ps.map Prod.fst = vs ∧ ps.map Prod.snd = ws ∧ ∀ q ∈ ps, RF D G q.2 q.1
  | [], _, h => ⟨[], by rw [show _ = [] from h]; rfl, rfl, fun _ z => nomatch z⟩
  | w :: ws, _, h => by
    obtain ⟨v, r, rfl, h1, h2⟩ := h
    obtain ⟨ps, e1, e2, h3⟩ := RFs.pairs h2
    refine ⟨(v, w) :: ps, by rw [List.map_cons, e1], by rw [List.map_cons, e2], fun q hq => ?_⟩
    rcases List.mem_cons.mp hq with rfl | hq
    · exact h1
    · exact h3 q hq
theorem RFs.ofPairs {D : Dn} {G : Hp} : ∀ {ps : List (V × W)}, (∀ q ∈ ps, RF D G q.2 q.1) → RFs D G (ps.map Prod.snd) (ps.map Prod.fst)
  | [], _ => rfl
  | q :: ps, h => ⟨q.1, _, rfl, h q List.mem_cons_self, RFs.ofPairs fun r hr => h r (List.mem_cons_of_mem _ hr)⟩
theorem each_vals : ∀ {ps : List (V × W)} {us : List Value}, Vals (ps.map Prod.fst) us → PySem.W.EachIs (fun u (q : V × W) => RelV q.1 u) us ps
  | [], _, .nil => .nil
  | _ :: ps, _, .cons r t => .cons r (each_vals t)
theorem vals_each : ∀ {ps : List (V × W)} {us : List Value}, PySem.W.EachIs (fun u (q : V × W) => RelV q.1 u) us ps → Vals (ps.map Prod.fst) us
  | _, _, .nil => .nil
  | _, _, .cons r t => .cons r (vals_each t)
theorem each_reads {X : Cx} {pins : List (Addr × Obj)} {σ : St} {H : Hp} {s : Shared} (I : Inv X pins σ H s) : ∀ {ps : List (V × W)} {us : List Value}, (∀ q ∈ ps, Dp X.K H q.1 q.2.dat) → PySem.W.EachIs (fun u (q : V × W) => RelV q.1 u) us ps →
    PySem.W.EachIs (fun u (q : V × W) => ∃ as, PySem.Reads s.heap u q.2.dat as) us ps
  | _, _, _, .nil => .nil
  | q :: ps, _, h, .cons r t => .cons (Dp.reads I _ _ _ (h q List.mem_cons_self) r) (each_reads I (fun q' hq => h q' (List.mem_cons_of_mem _ hq)) t)
theorem sort_snd (ps : List (V × W)) : (ps.mergeSort (PySem.W.dataLe false fun q => q.2.dat)).map Prod.snd = (ps.map Prod.snd).mergeSort leD :=
  PySem.W.sort_maps Prod.snd fun _ _ _ _ => rfl
theorem cr_sortedD {X : Cx} {k : Nat} (hr : Room k X.A) : CallR X (.builtin "sorted") (fun vs H Q => ∃ (a : Addr) (ps : List (V × W)), vs = [.ref a] ∧ SqL X.K H a (ps.map Prod.fst) ∧ (∀ q ∈ ps, Dp X.K H q.1 q.2.dat) ∧ SortOk (ps.map Prod.snd) ∧
    ∀ p, H p = none → Q (.ref p) (upd H p (.lst ((ps.mergeSort (PySem.W.dataLe false fun q => q.2.dat)).map Prod.fst)))) := by
  intro pins s σ H vs us Q I r h
  obtain ⟨a, ps, rfl, hs, hd, ⟨o1, o2, o3, o4⟩, q⟩ := h
  obtain ⟨its, rv, hl, hz⟩ := I.list hs
  rw [Vals.ref1 r]
  have e1 := each_vals rv
  have mm : ps.map (fun q => q.2.dat) = (ps.map Prod.snd).map W.dat := by rw [List.map_map]; rfl
  refine PySem.W.sorted_data (enc := fun q : V × W => q.2.dat) hl.isList e1 (each_reads I hd e1) (by rw [mm]; exact o1) (by rw [mm]; exact o2) (by rw [List.length_map] at o3; exact o3) (fun b hb => ?_) fun out hlen eo => ?_
  · have h60 := o4 b.2 (List.mem_map.mpr ⟨b, hb, rfl⟩)
    have hu := hr.un
    show X.A.units + 2 + b.2.dat.depth < cLine
    omega
  · obtain ⟨ep, he'⟩ := PyProof.Rows.sortedAll_at s.heap its (List.toArray out)
    have hv := vals_each eo
    refine ⟨.ref _, upd H (s.heap.objs.size + 1) (.lst ((ps.mergeSort (PySem.W.dataLe false fun q => q.2.dat)).map Prod.fst)), I.laid (t' := s.toks) (fun _ _ => PyProof.Rows.sortedAll_old) (Nat.le_succ _) ⟨?_, out, ep, hv, he'⟩, rfl, q _ (I.hok.fresh (Nat.le_succ _))⟩
    rw [List.length_map, List.length_mergeSort]
    rw [List.length_map] at o3
    exact o3
theorem me_sorted (b : Bool) (hr : Room k Z.X.A) (hm : Z.X.mg "sorted" = none) (ha : ME Z e m p k1) (hg : Gl Z.X "sorted" := by rfl) (hs : starEach [e] Z.X.env = (false, eval e Z.X.env) :: starEach [] Z.X.env := by rfl) : ME Z (.Call (.Name "sorted" p1) [e] [] p2) (mUn (sortedW b) m) p true :=
  me_b1 (fun G H w1 v1 O1 w Q s r e q => by
    unfold sortedW at e
    cases h : lisW w1 with
    | none => rw [h] at e; cases e
    | some ws =>
      rw [h, Option.bind_some] at e
      by_cases ho : SortOk ws
      · rw [if_pos ho] at e
        cases e
        obtain ⟨a, vs, rfl, h3, h4⟩ := lisW_at s r h
        obtain ⟨ps, rfl, rfl, h5⟩ := h4.pairs
        refine ⟨_, cr_sortedD hr, a, ps, rfl, h3, fun q hq => RF.dp _ _ (RF.mono s _ _ (h5 q hq)), ho, fun l n => ?_⟩
        rw [← sort_snd] at q
        exact q.lst s (RFs.ofPairs fun x hx => h5 x ((List.mergeSort_perm ps _).mem_iff.mp hx)) n
      · rw [if_neg ho] at e; cases e) hg hm PyProof.Rows.boot_sorted ha (by decide) (by decide) hs

/-! ### of two arguments -/
theorem me_b {x : Str} {id : String} {f : List W → Option W} {es : List Expr} {ms : Sm (List W)} (o : RelA Z.D (clAny Z.X (.builtin id)) f) (hg : Gl Z.X x) (hm : Z.X.mg x = none) (hv : bootBuiltins x = some (.builtin id)) (ha : MA Z (e :: es) ms p) (hn : x ≠ "__name__" := by decide) (hdb : (x == ("__debug__" : Str)) = false := by decide)
    (hs : starEach (e :: es) Z.X.env = (false, eval e Z.X.env) :: starEach es Z.X.env := by rfl) (hpl : (backTo p2 (starEach es Z.X.env)).any (·.1) = false := by rfl) : ME Z (.Call (.Name x p1) (e :: es) [] p2) (mArgs f ms) p true :=
  pe_imp (pe_callB cl_any hg hm hv ha hn hdb hs hpl) fun _ _ _ q => ta_args o q
def max2W : List W → Option W
  | [.int i, .int j] => some (.int (if j > i then j else i))
  | _ => none
def min2W : List W → Option W
  | [.int i, .int j] => some (.int (if j < i then j else i))
  | _ => none
theorem RFs.two {D : Dn} {G : Hp} {i j : Int} {vs : List V} (h : RFs D G [.int i, .int j] vs) : vs = [.int i, .int j] := RFs.ints (ns := [i, j]) h
theorem me_max2 {es : List Expr} {ms : Sm (List W)} (hc : Z.X.calm = true) (hm : Z.X.mg "max" = none) (ha : MA Z (e :: es) ms p) (hg : Gl Z.X "max" := by rfl) (hs : starEach (e :: es) Z.X.env = (false, eval e Z.X.env) :: starEach es Z.X.env := by rfl) (hpl : (backTo p2 (starEach es Z.X.env)).any (·.1) = false := by rfl) :
    ME Z (.Call (.Name "max" p1) (e :: es) [] p2) (mArgs max2W ms) p true := me_b (fun G H ws vs w Q s r e q => by
  unfold max2W at e
  split at e
  · cases e
    rw [RFs.two r]
    exact ⟨_, call_max2 hc, _, _, rfl, q.int s⟩
  · cases e) hg hm PyProof.Rows.boot_max ha (by decide) (by decide) hs hpl
theorem me_min2 {es : List Expr} {ms : Sm (List W)} (hc : Z.X.calm = true) (hm : Z.X.mg "min" = none) (ha : MA Z (e :: es) ms p) (hg : Gl Z.X "min" := by rfl) (hs : starEach (e :: es) Z.X.env = (false, eval e Z.X.env) :: starEach es Z.X.env := by rfl) (hpl : (backTo p2 (starEach es Z.X.env)).any (·.1) = false := by rfl) :
    ME Z (.Call (.Name "min" p1) (e :: es) [] p2) (mArgs min2W ms) p true := me_b (fun G H ws vs w Q s r e q => by
  unfold min2W at e
  split at e
  · cases e
    rw [RFs.two r]
    exact ⟨_, call_min2 hc, _, _, rfl, q.int s⟩
  · cases e) hg hm PyProof.Rows.boot_min ha (by decide) (by decide) hs hpl
end
end Ev

namespace Ev
open PySem PySem.Spec L2

/-! ### what a def does, as a function -/
abbrev Fn := List W → Out W
def spOf (D : Dn) (n : Nat) (g : Fn) : Sp := fun vs H Q E => vs.length = n ∧ ∃ (ws : List W) (G : Hp) (O : List Addr), Sub G H ∧ ROs D G H ws vs O ∧ O.Nodup ∧ (∀ a ∈ O, G a = none) ∧ match g ws with
  | .ok w ws' => ∀ v G' H' O' Ow, Sub G' H' → ROs D G' H' ws' vs O' → RO D G' H' w v Ow → (O' ++ Ow).Nodup → (∀ a ∈ O' ++ Ow, G' a = none) → Step G H O G' H' (O' ++ Ow) → Q v H'
  | .ex c ws' => ∀ G' H' O', Sub G' H' → ROs D G' H' ws' vs O' → O'.Nodup → (∀ a ∈ O', G' a = none) → Step G H O G' H' O' → E (.ref (D.CA c)) none H'
  | .bad => False
/-- a def of the module: its name, level, parameters, function -/
def FnT (P : Program) (w : World) (K : PySem.W.Frag) (mg : Str → Option Value) (base : Heap) (CA : Nat → Addr) (x : Str) (n k : Nat) (g : Fn) : Prop :=
  ∃ (f : Addr) (fd : FuncData) (ps : List Str), FnOk P w K mg base (L2.CX P w) k f fd ps (spOf ⟨K, CA⟩ n g) ∧ mg x = some (.ref f) ∧ PySem.W.keepIn K (.ref f) = true ∧ Binds K fd ps []
abbrev FnZ (Z : Zt) (x : Str) (n k : Nat) (g : Fn) : Prop := FnT Z.X.prog Z.X.w Z.X.K Z.X.mg Z.X.base Z.CA x n k g

/-! ### a call, all by value -/
def mCallP (g : Fn) (m : Sm (List W)) : Sm W := Sm.bind m fun ws env => match g ws with
  | .ok w _ => .ok w env
  | .ex c _ => .ex c env
  | .bad => .bad
theorem RFs.toO {D : Dn} {G H : Hp} : ∀ {ws : List W} {vs : List V}, RFs D G ws vs → ROs D G H ws vs []
  | [], _, h => ⟨h, rfl⟩
  | w :: ws, _, h => by
    obtain ⟨v, r, rfl, h1, h2⟩ := h
    exact ⟨v, r, [], [], rfl, rfl, RO.ofF h1, RFs.toO h2⟩
theorem Stp.ofP {p : Bool} {env env1 : List W} {σ : St} {G H G1 H1 G2 H2 : Hp} {Os Os1 : List (List Addr)} {Ow : List Addr} (a : Stp p env G H Os env1 G1 H1 Os1 []) (t : Step G1 H1 [] G2 H2 Ow) : Stp p env G H Os env1 G2 H2 Os1 Ow := by
  have z := a.trans (Stp.grow true (env := env1) (Os := Os1) t)
  rwa [Bool.and_true] at z
section
variable {Z : Zt} {x : Str} {n k : Nat} {g : Fn} {e : Expr} {es : List Expr} {p : Bool} {p1 p2 : Pos}
theorem me_callP {m : Sm (List W)} (F : FnZ Z x n k g) (hr : Room k Z.X.A) (tk : Takes Z.X Z.W) (ha : MA Z (e :: es) m p) (hg : Gl Z.X x) (hdb : (x == ("__debug__" : Str)) = false := by decide)
    (he : starEach (e :: es) Z.X.env = (false, eval e Z.X.env) :: starEach es Z.X.env := by rfl) (hpl : (backTo p2 (starEach es Z.X.env)).any (·.1) = false := by rfl) (hn : (e :: es).length = n := by rfl)
    : ME Z (.Call (.Name x p1) (e :: es) [] p2) (mCallP g (Sm.bind m fun ws => if ws.length = n then Sm.ret ws else fun _ => .bad)) p true := by
  obtain ⟨f, fd, ps, F, hm, hk, hb⟩ := F
  refine pe_imp (pe_callS F hr hg hm hk hb (fun σ => passAt tk σ) ha hdb he hpl) fun σ H Q q => ?_
  obtain ⟨env, G, Os, s, q⟩ := q
  refine ⟨env, G, Os, s, ?_⟩
  unfold mCallP Sm.bind at q
  cases e1 : m env with
  | bad => rw [e1] at q; exact q
  | ex c env1 => rw [e1] at q; exact q
  | ok ws env1 =>
    rw [e1] at q
    intro vs G1 H1 Os1 s1 r1 t1
    by_cases hl : ws.length = n
    · simp only [if_pos hl, Sm.ret] at q
      refine ⟨by rw [← r1.len]; exact hl, ws, G1, [], s1.sub, r1.toO, List.nodup_nil, fun _ z => (nomatch z), ?_⟩
      cases e2 : g ws with
      | bad => simp only [e2] at q
      | ex c ws' =>
        simp only [e2] at q
        intro G' H' O' sub _ _ _ st
        have st' := st.less (O2 := []) fun _ z => nomatch z
        exact q G' H' Os1 (s1.step st' sub) (t1.ofP (σ := σ) st')
      | ok w ws' =>
        simp only [e2] at q
        intro v G' H' O' Ow sub _ r nd gn st
        have st' := st.less (O2 := Ow) fun a ha => List.mem_append_right _ ha
        have nd' : Ow.Nodup := (List.nodup_append.mp nd).2.1
        refine q v G' H' Os1 Ow (s1.step st' sub) r ⟨s1.apart st' nd', fun a ha => gn a (List.mem_append_right _ ha)⟩ (t1.ofP (σ := σ) st')
    · simp only [if_neg hl] at q
end

/-! ### a call with things of the caller's own -/
inductive AV where
  | v (w : W)
  | io (i : Nat)
def AVs (D : Dn) (G : Hp) (σ : St) : List AV → List V → Prop
  | [], vs => vs = []
  | .v w :: as, vs => ∃ x r, vs = x :: r ∧ RF D G w x ∧ AVs D G σ as r
  | .io i :: as, vs => ∃ x r, vs = x :: r ∧ σ[i]? = some (some x) ∧ AVs D G σ as r
theorem AVs.mono {D : Dn} {G G' : Hp} {σ : St} (e : Sub G G') : ∀ {as : List AV} {vs : List V}, AVs D G σ as vs → AVs D G' σ as vs
  | [], _, h => h
  | .v w :: as, _, h => by
    obtain ⟨x, r, rfl, h1, h2⟩ := h
    exact ⟨x, r, rfl, RF.mono e _ _ h1, h2.mono e⟩
  | .io i :: as, _, h => by
    obtain ⟨x, r, rfl, h1, h2⟩ := h
    exact ⟨x, r, rfl, h1, h2.mono e⟩
theorem AVs.len {D : Dn} {G : Hp} {σ : St} : ∀ {as : List AV} {vs : List V}, AVs D G σ as vs → as.length = vs.length
  | [], _, h => by rw [show _ = [] from h]; rfl
  | .v w :: as, _, h => by
    obtain ⟨x, r, rfl, h1, h2⟩ := h
    simp [AVs.len h2]
  | .io i :: as, _, h => by
    obtain ⟨x, r, rfl, h1, h2⟩ := h
    simp [AVs.len h2]
def TAr (D : Dn) (Wx : WX) (p : Bool) (m : Sm (List AV)) : TA := fun σ H Q => ∃ (env : List W) (G : Hp) (Os : List (List Addr)), StOk D G H env σ Os ∧ match m env with
  | .ok as env' => ∀ vs G' H' Os', StOk D G' H' env' σ Os' → AVs D G' σ as vs → Stp p env G H Os env' G' H' Os' [] → Q vs H'
  | .ex c env' => ∀ G' H' Os', StOk D G' H' env' σ Os' → Stp p env G H Os env' G' H' Os' [] → Wx (.ref (D.CA c)) none σ H'
  | .bad => False
abbrev MAr (Z : Zt) (es : List Expr) (m : Sm (List AV)) (p : Bool) : Prop := PA Z.X es (TAr Z.D Z.W p m)
def rNil : Sm (List AV) := Sm.ret []
def rVal (m : Sm W) (ms : Sm (List AV)) : Sm (List AV) := Sm.bind m fun w => if w.frz = true then Sm.bind ms fun as => Sm.ret (.v w :: as) else fun _ => .bad
def rIo (i : Nat) (ms : Sm (List AV)) : Sm (List AV) := Sm.bind ms fun as => Sm.ret (.io i :: as)
section
variable {Z : Zt} {e : Expr} {es : List Expr} {ms : Sm (List AV)} {p1 p2 k : Bool}
theorem mr_nil : MAr Z [] rNil true := pa_imp pa_nil fun σ H Q q => by
  obtain ⟨env, G, Os, s, q⟩ := q
  exact q [] G H Os s rfl (Stp.id true)
theorem mr_val {m : Sm W} (h : ME Z e m p1 k) (hr : MAr Z es ms p2) (hs : starEach (e :: es) Z.X.env = (false, eval e Z.X.env) :: starEach es Z.X.env := by rfl) : MAr Z (e :: es) (rVal m ms) (p1 && p2) :=
  pa_imp (pa_cons h hr hs) fun σ H Q q => by
    obtain ⟨env, G, Os, s, q⟩ := q
    refine ⟨env, G, Os, s, ?_⟩
    unfold rVal Sm.bind at q
    cases e1 : m env with
    | bad => rw [e1] at q; exact q
    | ex c env1 =>
      rw [e1] at q
      exact fun G' H' Os' s' t => q G' H' Os' s' (t.and p2)
    | ok w env1 =>
      rw [e1] at q
      intro v1 G1 H1 Os1 O1 s1 r1 o1 t1
      by_cases hf : w.frz = true
      · simp only [if_pos hf] at q
        obtain ⟨rfl, f⟩ := r1.toF hf
        have t1' : Stp p1 env G H Os env1 G1 H1 Os1 [] := t1.less kO_less
        refine ⟨env1, G1, Os1, s1, ?_⟩
        cases e2 : ms env1 with
        | bad => simp only [e2] at q
        | ex c env2 =>
          simp only [e2] at q
          exact fun G' H' Os' s' t => q G' H' Os' s' (t1'.trans t)
        | ok ws env2 =>
          simp only [e2] at q
          exact fun vs G' H' Os' s' r t => q (v1 :: vs) G' H' Os' s' ⟨v1, vs, rfl, RF.mono t.gen.mono _ _ f, r⟩ (t1'.trans t)
      · simp only [if_neg hf] at q
theorem mr_io (i : Nat) (h : PE Z.X e (tVar i)) (hr : MAr Z es ms p2) (hs : starEach (e :: es) Z.X.env = (false, eval e Z.X.env) :: starEach es Z.X.env := by rfl) : MAr Z (e :: es) (Sm.bind (mVar i) fun _ => rIo i ms) p2 :=
  pa_imp (pa_cons h hr hs) fun σ H Q q => by
    obtain ⟨env, G, Os, s, q⟩ := q
    unfold Sm.bind mVar at q
    cases e1 : env[i]? with
    | none => rw [e1] at q; exact q.elim
    | some w =>
      obtain ⟨sv, O, h1, h2, h3⟩ := s.sl.at e1
      rcases h3 with ⟨v, rfl, r⟩ | ⟨rfl, _⟩
      · refine ⟨v, h1, env, G, Os, s, ?_⟩
        have go : (match rIo i ms env with
          | .ok as env' => ∀ vs G' H' Os', StOk Z.D G' H' env' σ Os' → AVs Z.D G' σ as vs → Stp p2 env G H Os env' G' H' Os' [] → Q vs H'
          | .ex c env' => ∀ G' H' Os', StOk Z.D G' H' env' σ Os' → Stp p2 env G H Os env' G' H' Os' [] → Z.W (.ref (Z.D.CA c)) none σ H'
          | .bad => False) := by
          rw [e1] at q
          cases w <;> first
            | exact q.elim
            | exact q
        unfold rIo Sm.bind at go
        cases e2 : ms env with
        | bad => rw [e2] at go; exact go
        | ex c env2 => rw [e2] at go; exact go
        | ok as env2 =>
          rw [e2] at go
          exact fun vs G' H' Os' s' r t => go (v :: vs) G' H' Os' s' ⟨v, vs, rfl, h1, r⟩ t
      · rw [e1] at q; exact q.elim
end
def takeA : List W → List AV → Option (List W × List W)
  | env, [] => some ([], env)
  | env, .v w :: as => (takeA env as).map fun r => (w :: r.1, r.2)
  | env, .io i :: as => match env[i]? with
    | some .dead => none
    | some w => (takeA (env.set i .dead) as).map fun r => (w :: r.1, r.2)
    | none => none
def putA : List W → List AV → List W → List W
  | env, .io i :: as, w :: ws => putA (env.set i w) as ws
  | env, .v _ :: as, _ :: ws => putA env as ws
  | env, _, _ => env
theorem takeA_ok {D : Dn} {G H : Hp} {σ : St} : ∀ {as : List AV} {vs : List V} {env env0 : List W} {ws : List W} {Os : List (List Addr)}, Sl D G H env σ Os → AVs D G σ as vs → takeA env as = some (ws, env0) →
    ∃ Os0 O, Sl D G H env0 σ Os0 ∧ ROs D G H ws vs O ∧ (Os0.flatten ++ O).Perm Os.flatten
  | [], vs, env, env0, ws, Os, s, h, e => by
    cases e
    rw [show vs = [] from h]
    exact ⟨Os, [], s, ⟨rfl, rfl⟩, by rw [List.append_nil]⟩
  | .v w :: as, vs, env, env0, ws, Os, s, h, e => by
    obtain ⟨x, r, rfl, h1, h2⟩ := h
    have e' : (takeA env as).map (fun r => (w :: r.1, r.2)) = some (ws, env0) := e
    cases e2 : takeA env as with
    | none => rw [e2] at e'; cases e'
    | some q =>
      rw [e2] at e'
      cases e'
      obtain ⟨Os0, O, a1, a2, a3⟩ := takeA_ok s h2 e2
      exact ⟨Os0, O, a1, ⟨x, r, [], O, rfl, rfl, RO.ofF h1, a2⟩, a3⟩
  | .io i :: as, vs, env, env0, ws, Os, s, h, e => by
    obtain ⟨x, r, rfl, h1, h2⟩ := h
    cases e1 : env[i]? with
    | none => simp only [takeA, e1] at e; cases e
    | some w =>
      obtain ⟨sv, Oi, g1, g2, g3⟩ := s.at e1
      rcases g3 with ⟨v, rfl, ro⟩ | ⟨rfl, _⟩
      · rw [h1] at g1
        cases g1
        have e' : (takeA (env.set i .dead) as).map (fun r => (w :: r.1, r.2)) = some (ws, env0) := by
          simp only [takeA, e1] at e
          cases w <;> first
            | exact e
            | (cases e)
        cases e2 : takeA (env.set i .dead) as with
        | none => rw [e2] at e'; cases e'
        | some q =>
          rw [e2] at e'
          cases e'
          have s' : Sl D G H (env.set i .dead) σ (Os.set i []) := by
            have z := Sl.set (D := D) (G := G) (H := H) (w := .dead) (s := some x) (O := []) (.inr ⟨rfl, rfl⟩) i s
            rwa [set_self h1] at z
          obtain ⟨Os0, O, a1, a2, a3⟩ := takeA_ok s' h2 e2
          refine ⟨Os0, Oi ++ O, a1, ⟨x, r, Oi, O, rfl, rfl, ro, a2⟩, ?_⟩
          have pm := flat_set (O' := []) g2
          rw [List.append_nil] at pm
          have h3 : (Os0.flatten ++ (Oi ++ O)).Perm ((Os0.flatten ++ O) ++ Oi) := by
            rw [List.append_assoc]
            exact List.Perm.append_left _ List.perm_append_comm
          exact h3.trans ((a3.append_right _).trans pm)
      · simp only [takeA, e1] at e; cases e
theorem putA_ok {D : Dn} {G H : Hp} {σ : St} {T : List Addr} : ∀ {as : List AV} {vs : List V} {env : List W} {ws : List W} {Os : List (List Addr)} {O : List Addr}, Sl D G H env σ Os → AVs D G σ as vs → ROs D G H ws vs O → (Os.flatten ++ (O ++ T)).Nodup →
    ∃ Os2, Sl D G H (putA env as ws) σ Os2 ∧ (Os2.flatten ++ T).Nodup ∧ ∀ a ∈ Os2.flatten, a ∈ Os.flatten ∨ a ∈ O
  | [], vs, env, ws, Os, O, s, h, r, nd => by
    have e : vs = [] := h
    subst e
    have e2 : ws = [] := List.eq_nil_of_length_eq_zero r.len
    subst e2
    obtain ⟨_, rfl⟩ := r
    exact ⟨Os, s, nd, fun a ha => .inl ha⟩
  | .v w :: as, vs, env, ws, Os, O, s, h, r, nd => by
    obtain ⟨x, r', rfl, h1, h2⟩ := h
    cases ws with
    | nil => exact nomatch r.1
    | cons w2 ws =>
      obtain ⟨v, r2, O1, O2, ev, rfl, h3, h4⟩ := r
      cases ev
      have nd' : (Os.flatten ++ (O2 ++ T)).Nodup := nd.sublist (List.Sublist.append (List.Sublist.refl _) (by rw [List.append_assoc]; exact List.sublist_append_right _ _))
      obtain ⟨Os2, a1, a2, a3⟩ := putA_ok s h2 h4 nd'
      exact ⟨Os2, a1, a2, fun a ha => (a3 a ha).imp id (List.mem_append_right _)⟩
  | .io i :: as, vs, env, ws, Os, O, s, h, r, nd => by
    obtain ⟨x, r', rfl, h1, h2⟩ := h
    cases ws with
    | nil => exact nomatch r.1
    | cons w2 ws =>
      obtain ⟨v, r2, O1, O2, ev, rfl, h3, h4⟩ := r
      cases ev
      have s' : Sl D G H (env.set i w2) σ (Os.set i O1) := by
        have z := Sl.set (D := D) (G := G) (H := H) (w := w2) (s := some x) (O := O1) (.inl ⟨x, rfl, h3⟩) i s
        rwa [set_self h1] at z
      have hi : i < Os.length := by
        rw [s.len.2]
        exact (List.getElem?_eq_some_iff.mp h1).1
      have g2 : Os[i]? = some Os[i] := List.getElem?_eq_getElem hi
      have pm := flat_set (O' := O1) g2
      have nd' : ((Os.set i O1).flatten ++ (O2 ++ T)).Nodup := by
        have q : ((Os.set i O1).flatten ++ Os[i] ++ (O2 ++ T)).Perm (Os.flatten ++ (O1 ++ O2 ++ T)) := by
          rw [List.append_assoc O1, ← List.append_assoc Os.flatten]
          exact pm.append_right _
        have q2 := q.nodup_iff.mpr nd
        rw [List.append_assoc] at q2
        exact q2.sublist (List.Sublist.append (List.Sublist.refl _) (List.sublist_append_right _ _))
      obtain ⟨Os2, a1, a2, a3⟩ := putA_ok s' h2 h4 nd'
      refine ⟨Os2, a1, a2, fun a ha => ?_⟩
      rcases a3 a ha with z | z
      · rcases List.mem_append.mp (pm.mem_iff.mp (List.mem_append_left _ z)) with y | y
        · exact .inl y
        · exact .inr (List.mem_append_left _ y)
      · exact .inr (List.mem_append_right _ z)
def mCall (g : Fn) (n : Nat) (m : Sm (List AV)) : Sm W := Sm.bind m fun as env => if as.length = n then match takeA env as with
  | none => .bad
  | some (ws, env0) => match g ws with
    | .ok w ws' => .ok w (putA env0 as ws')
    | .ex c ws' => .ex c (putA env0 as ws')
    | .bad => .bad
  else .bad
section
variable {Z : Zt} {x : Str} {n k : Nat} {g : Fn} {e : Expr} {es : List Expr} {p : Bool} {p1 p2 : Pos}
theorem me_call {m : Sm (List AV)} (F : FnZ Z x n k g) (hr : Room k Z.X.A) (tk : Takes Z.X Z.W) (ha : MAr Z (e :: es) m p) (hg : Gl Z.X x) (hdb : (x == ("__debug__" : Str)) = false := by decide)
    (he : starEach (e :: es) Z.X.env = (false, eval e Z.X.env) :: starEach es Z.X.env := by rfl) (hpl : (backTo p2 (starEach es Z.X.env)).any (·.1) = false := by rfl)
    : ME Z (.Call (.Name x p1) (e :: es) [] p2) (mCall g n m) false true := by
  obtain ⟨f, fd, ps, F, hm, hk, hb⟩ := F
  refine pe_imp (pe_callS F hr hg hm hk hb (fun σ => passAt tk σ) ha hdb he hpl) fun σ H Q q => ?_
  obtain ⟨env, G, Os, s, q⟩ := q
  refine ⟨env, G, Os, s, ?_⟩
  unfold mCall Sm.bind at q
  cases e1 : m env with
  | bad => rw [e1] at q; exact q
  | ex c env1 =>
    rw [e1] at q
    exact fun G' H' Os' s' t => q G' H' Os' s' t.gen
  | ok as env1 =>
    rw [e1] at q
    intro vs G1 H1 Os1 s1 r1 t1
    by_cases hl : as.length = n
    · simp only [if_pos hl] at q
      cases e2 : takeA env1 as with
      | none => simp only [e2] at q
      | some qq =>
        obtain ⟨ws, env0⟩ := qq
        simp only [e2] at q
        obtain ⟨Os0, O, a1, a2, a3⟩ := takeA_ok s1.sl r1 e2
        have ndO : (Os0.flatten ++ O).Nodup := a3.nodup_iff.mpr s1.nd
        have inO : ∀ a ∈ O, a ∈ Os1.flatten := fun a ha => a3.mem_iff.mp (List.mem_append_right _ ha)
        have in0 : ∀ a ∈ Os0.flatten, a ∈ Os1.flatten := fun a ha => a3.mem_iff.mp (List.mem_append_left _ ha)
        have no0 : ∀ a ∈ Os0.flatten, a ∉ O := fun a ha hb => (List.nodup_append.mp ndO).2.2 a ha a hb rfl
        refine ⟨by rw [← r1.len]; exact hl, ws, G1, O, s1.sub, a2, (List.nodup_append.mp ndO).2.1, fun a ha => s1.gn a (inO a ha), ?_⟩
        -- the state behind the call
        have after : ∀ {ws' : List W} {G' H' : Hp} {O' Ow : List Addr}, Sub G' H' → ROs Z.D G' H' ws' vs O' → (O' ++ Ow).Nodup → (∀ a ∈ O' ++ Ow, G' a = none) → Step G1 H1 O G' H' (O' ++ Ow) →
            ∃ Os', StOk Z.D G' H' (putA env0 as ws') σ Os' ∧ (Os'.flatten ++ Ow).Nodup ∧ Step G1 H1 Os1.flatten G' H' (Os'.flatten ++ Ow) := by
          intro ws' G' H' O' Ow sub ro nd gn st
          have s0 : Sl Z.D G' H' env0 σ Os0 := a1.mono st.mono fun a ha o ho => st.keep a o ho (no0 a ha)
          have nd0 : (Os0.flatten ++ (O' ++ Ow)).Nodup := by
            refine List.nodup_append.mpr ⟨(List.nodup_append.mp ndO).1, nd, fun a ha b hb eab => ?_⟩
            subst eab
            rcases st.new a hb with z | z
            · exact no0 a ha z
            · obtain ⟨o, ho⟩ := s1.there a (in0 a ha)
              rw [ho] at z; cases z
          obtain ⟨Os', b1, b2, b3⟩ := putA_ok s0 (r1.mono st.mono) ro nd0
          have gn0 : ∀ a ∈ Os0.flatten, G' a = none := fun a ha => by
            obtain ⟨o, ho, nt⟩ := s1.thn a (in0 a ha)
            exact st.gnew a o ho (no0 a ha) nt (s1.gn a (in0 a ha))
          refine ⟨Os', ⟨b1, sub, fun a ha => ?_, (List.nodup_append.mp b2).1⟩, b2, ⟨st.mono, fun a o h1 h2 => st.keep a o h1 fun z => h2 (inO a z), fun a o h1 h2 nt => st.gnew a o h1 (fun z => h2 (inO a z)) nt, fun a ha => ?_⟩⟩
          · rcases b3 a ha with z | z
            · exact gn0 a z
            · exact gn a (List.mem_append_left _ z)
          · rcases List.mem_append.mp ha with z | z
            · rcases b3 a z with y | y
              · exact .inl (in0 a y)
              · exact (st.new a (List.mem_append_left _ y)).imp (inO a) id
            · exact (st.new a (List.mem_append_right _ z)).imp (inO a) id
        have t1' : Step G H Os.flatten G1 H1 Os1.flatten := t1.gen.less fun a ha => List.mem_append_left _ ha
        cases e3 : g ws with
        | bad => simp only [e3] at q
        | ex c ws' =>
          simp only [e3] at q
          intro G' H' O' sub ro nd gn st
          obtain ⟨Os', c1, c2, c3⟩ := after (Ow := []) sub ro (by rw [List.append_nil]; exact nd) (by rw [List.append_nil]; exact gn) (by rw [List.append_nil]; exact st)
          exact q G' H' Os' c1 (t1'.trans c3)
        | ok w ws' =>
          simp only [e3] at q
          intro v G' H' O' Ow sub ro r nd gn st
          obtain ⟨Os', c1, c2, c3⟩ := after sub ro nd gn st
          exact q v G' H' Os' Ow c1 r ⟨c2, fun a ha => gn a (List.mem_append_right _ ha)⟩ (t1'.trans c3)
    · simp only [if_neg hl] at q
end

/-! ### frozen -/
/-- what is new and owned is told as frozen -/
def W.fz : W → W
  | .lst _ ws => .lst false ws
  | w => w
def mFz (m : Sm W) : Sm W := Sm.bind m fun w => match w.fz.frz with
  | true => Sm.ret w.fz
  | false => fun _ => .bad
theorem tx_fz {D : Dn} {Wx : WX} {m : Sm W} {p : Bool} {σ : St} {H : Hp} {Q : VK} (q : TX D Wx p true (mFz m) σ H Q) : TX D Wx p true m σ H Q := by
  obtain ⟨env, G, Os, s, q⟩ := q
  refine ⟨env, G, Os, s, ?_⟩
  unfold mFz Sm.bind at q
  cases e1 : m env with
  | bad => rw [e1] at q; exact q
  | ex c env1 => rw [e1] at q; exact q
  | ok w env1 =>
    rw [e1] at q
    intro v G' H' Os' Ow s' r o t
    by_cases hf : w.frz = true
    · have e2 : w.fz = w := by
        cases w <;> first
          | rfl
          | (rename_i b _; cases b <;> first | rfl | exact nomatch hf)
      simp only [e2, hf] at q
      exact q v G' H' Os' Ow s' r o t
    · have key : ∃ ws, w = .lst true ws ∨ w.fz.frz = false := by
        cases w <;> first
          | exact ⟨[], .inr rfl⟩
          | exact absurd rfl hf
          | (rename_i b ws; cases b <;> first | exact ⟨ws, .inl rfl⟩ | exact ⟨[], .inr rfl⟩ | exact absurd rfl hf)
          | (rename_i b ks ws; cases b <;> first | exact ⟨[], .inr rfl⟩ | exact absurd rfl hf)
      obtain ⟨ws, rfl | hff⟩ := key
      · obtain ⟨a, vs, rfl, rfl, h1, h2⟩ := r
        have ha : G' a = none := o.2 a List.mem_cons_self
        have na : ∀ b ∈ Os'.flatten, b ≠ a := fun b hb eab => (List.nodup_append.mp o.1).2.2 b hb a List.mem_cons_self eab
        have mono : Sub G' (upd G' a (.lst vs)) := sub_new ha
        have sub : Sub (upd G' a (.lst vs)) H' := fun b x hb => by
          by_cases e : b = a
          · subst e; rw [upd_same] at hb; cases hb; exact h1
          · rw [upd_ne e] at hb; exact s'.sub b x hb
        have s2 : StOk D (upd G' a (.lst vs)) H' env1 σ Os' := ⟨s'.sl.mono mono fun _ _ _ h => h, sub, fun b hb => by rw [upd_ne (na b hb)]; exact s'.gn b hb, s'.nd⟩
        refine q (.ref a) (upd G' a (.lst vs)) H' Os' [] s2 ⟨rfl, a, vs, rfl, upd_same, RFs.mono mono _ _ h2⟩ (OwnK.nil s2) ?_
        have st : ∀ {O O' : List Addr}, a ∈ O' → Step G H O G' H' O' → (∀ b ∈ O', b ∈ O ∨ H b = none) → (∀ b, H b = none → b = a → True) → True := fun _ _ _ _ => trivial
        cases p with
        | true =>
          obtain ⟨e1, e2, t⟩ := t
          refine ⟨e1, e2, t.mono.trans mono, t.keep, fun b x hb hn nt hg => ?_, fun _ z => nomatch z⟩
          have z := t.gnew b x hb hn nt hg
          have nb : b ≠ a := fun e => by
            subst e
            rcases t.new b List.mem_cons_self with y | y
            · cases y
            · rw [hb] at y; cases y
          rw [upd_ne nb]; exact z
        | false =>
          have t' : Step G H Os.flatten G' H' (Os'.flatten ++ [a]) := t
          show Step G H Os.flatten _ H' (Os'.flatten ++ [])
          refine ⟨t'.mono.trans mono, t'.keep, fun b x hb hn nt hg => ?_, fun b hb => t'.new b (by rw [List.append_nil] at hb; exact List.mem_append_left _ hb)⟩
          have z := t'.gnew b x hb hn nt hg
          have nb : b ≠ a := fun e => by
            subst e
            rcases t'.new b (List.mem_append_right _ List.mem_cons_self) with y | y
            · exact hn y
            · rw [hb] at y; cases y
          rw [upd_ne nb]; exact z
      · simp only [hff] at q
theorem me_fz {Z : Zt} {e : Expr} {m : Sm W} {p : Bool} (h : ME Z e m p true) : ME Z e (mFz m) p true := pe_imp h fun _ _ _ q => tx_fz q
end Ev

namespace Ev
open PySem PySem.Spec L2

/-! ### statements -/
inductive Fl where
  | nx | bk | ct
  | rt (w : W)
def IoS (io : Nat → Bool) (σ σ' : St) : Prop := ∀ i, io i = true → σ'[i]? = σ[i]?
theorem IoS.refl {io : Nat → Bool} (σ : St) : IoS io σ σ := fun _ _ => rfl
theorem IoS.trans {io : Nat → Bool} {σ σ1 σ2 : St} (a : IoS io σ σ1) (b : IoS io σ1 σ2) : IoS io σ σ2 := fun i h => (b i h).trans (a i h)
theorem IoS.set {io : Nat → Bool} {σ : St} {i : Nat} {v : Option V} (h : io i = false) : IoS io σ (σ.set i v) := fun j hj => by
  have : i ≠ j := fun e => by subst e; rw [h] at hj; cases hj
  rw [List.getElem?_set_ne this]
def PostS (D : Dn) (Wx : WX) (io : Nat → Bool) (E : Ends) (σ : St) (G H : Hp) (Os : List (List Addr)) : Out Fl → Prop
  | .ok .nx env' => ∀ σ' G' H' Os', StOk D G' H' env' σ' Os' → Step G H Os.flatten G' H' Os'.flatten → IoS io σ σ' → E.nx σ' H'
  | .ok .bk env' => ∀ σ' G' H' Os', StOk D G' H' env' σ' Os' → Step G H Os.flatten G' H' Os'.flatten → IoS io σ σ' → E.bk σ' H'
  | .ok .ct env' => ∀ σ' G' H' Os', StOk D G' H' env' σ' Os' → Step G H Os.flatten G' H' Os'.flatten → IoS io σ σ' → E.ct σ' H'
  | .ok (.rt w) env' => ∀ v σ' G' H' Os' Ow, StOk D G' H' env' σ' Os' → RO D G' H' w v Ow → OwnK true Os' Ow G' → Step G H Os.flatten G' H' (Os'.flatten ++ Ow) → IoS io σ σ' → E.rt v H'
  | .ex c env' => ∀ σ' G' H' Os', StOk D G' H' env' σ' Os' → Step G H Os.flatten G' H' Os'.flatten → IoS io σ σ' → Wx (.ref (D.CA c)) none σ' H'
  | .bad => False
def TSx (D : Dn) (Wx : WX) (io : Nat → Bool) (m : Sm Fl) : TS := fun E σ H => ∃ (env : List W) (G : Hp) (Os : List (List Addr)), StOk D G H env σ Os ∧ PostS D Wx io E σ G H Os (m env)
abbrev MS (Z : Zt) (st : Stmt) (m : Sm Fl) : Prop := PS Z.X st (TSx Z.D Z.W Z.io m)
abbrev MSs (Z : Zt) (st : List Stmt) (m : Sm Fl) : Prop := PSs Z.X st (TSx Z.D Z.W Z.io m)
theorem ps_imp {X : Cx} {e : Stmt} {t t' : TS} (h : PS X e t) (i : ∀ D σ H, t' D σ H → t D σ H) : PS X e t' := ⟨fun pins s σ H D I w => h.run pins s σ H D I (i D σ H w)⟩
theorem pss_imp {X : Cx} {e : List Stmt} {t t' : TS} (h : PSs X e t) (i : ∀ D σ H, t' D σ H → t D σ H) : PSs X e t' := ⟨fun pins s σ H D I w => h.run pins s σ H D I (i D σ H w)⟩
theorem Stp.st {p : Bool} {env env' : List W} {G H G' H' : Hp} {Os Os' : List (List Addr)} {Ow : List Addr} (h : Stp p env G H Os env' G' H' Os' Ow) : Step G H Os.flatten G' H' Os'.flatten := h.gen.less fun a ha => List.mem_append_left _ ha

/-- the state goes on: from a place reached to the end -/
theorem PostS.on {D : Dn} {Wx : WX} {io : Nat → Bool} {E : Ends} {σ σ1 : St} {G H G1 H1 : Hp} {Os Os1 : List (List Addr)} (t1 : Step G H Os.flatten G1 H1 Os1.flatten) (i1 : IoS io σ σ1) : ∀ {o : Out Fl}, PostS D Wx io E σ G H Os o → PostS D Wx io E σ1 G1 H1 Os1 o
  | .bad, h => h
  | .ex _ _, h => fun σ' G' H' Os' s t i => h σ' G' H' Os' s (t1.trans t) (i1.trans i)
  | .ok .nx _, h => fun σ' G' H' Os' s t i => h σ' G' H' Os' s (t1.trans t) (i1.trans i)
  | .ok .bk _, h => fun σ' G' H' Os' s t i => h σ' G' H' Os' s (t1.trans t) (i1.trans i)
  | .ok .ct _, h => fun σ' G' H' Os' s t i => h σ' G' H' Os' s (t1.trans t) (i1.trans i)
  | .ok (.rt w) _, h => fun v σ' G' H' Os' Ow s r o t i => h v σ' G' H' Os' Ow s r o (t1.trans t) (i1.trans i)
theorem TSx.on {D : Dn} {Wx : WX} {io : Nat → Bool} {m : Sm Fl} {E : Ends} {σ σ1 : St} {env1 : List W} {G H G1 H1 : Hp} {Os Os1 : List (List Addr)} (s1 : StOk D G1 H1 env1 σ1 Os1) (t1 : Step G H Os.flatten G1 H1 Os1.flatten) (i1 : IoS io σ σ1)
    (h : PostS D Wx io E σ G H Os (m env1)) : TSx D Wx io m E σ1 H1 := ⟨env1, G1, Os1, s1, h.on t1 i1⟩

def sNil : Sm Fl := Sm.ret .nx
def sSeq (m1 m2 : Sm Fl) : Sm Fl := Sm.bind m1 fun fl => match fl with
  | .nx => m2
  | fl => Sm.ret fl
section
variable {Z : Zt} {st : Stmt} {rest : List Stmt} {m m1 m2 : Sm Fl} {pos : Pos}
theorem mss_nil : MSs Z [] sNil := pss_imp pss_nil fun E σ H q => by
  obtain ⟨env, G, Os, s, q⟩ := q
  exact q σ G H Os s (Step.refl _ _ _) (IoS.refl _)
theorem mss_one (h : MS Z st m) : MSs Z [st] m := pss_one h
theorem mss_cons (h1 : MS Z st m1) (h2 : MSs Z rest m2) : MSs Z (st :: rest) (sSeq m1 m2) := pss_imp (pss_cons h1 h2) fun E σ H q => by
  obtain ⟨env, G, Os, s, q⟩ := q
  refine ⟨env, G, Os, s, ?_⟩
  unfold sSeq Sm.bind at q
  cases e : m1 env with
  | bad => rw [e] at q; exact q
  | ex c env1 => rw [e] at q; exact q
  | ok fl env1 =>
    rw [e] at q
    cases fl with
    | nx => exact fun σ1 G1 H1 Os1 s1 t1 i1 => TSx.on s1 t1 i1 q
    | bk => exact q
    | ct => exact q
    | rt w => exact q
theorem ms_pass : MS Z (.Pass pos) sNil := ps_imp ps_pass fun E σ H q => by
  obtain ⟨env, G, Os, s, q⟩ := q
  exact q σ G H Os s (Step.refl _ _ _) (IoS.refl _)
theorem ms_break : MS Z (.Break pos) (Sm.ret .bk) := ps_imp ps_break fun E σ H q => by
  obtain ⟨env, G, Os, s, q⟩ := q
  exact q σ G H Os s (Step.refl _ _ _) (IoS.refl _)
theorem ms_cont : MS Z (.Continue pos) (Sm.ret .ct) := ps_imp ps_continue fun E σ H q => by
  obtain ⟨env, G, Os, s, q⟩ := q
  exact q σ G H Os s (Step.refl _ _ _) (IoS.refl _)
def sIf (c : Sm Bool) (a b : Sm Fl) : Sm Fl := Sm.bind c fun t => if t = true then a else b
theorem ms_if {c : Expr} {a b : List Stmt} {mc : Sm Bool} {p : Bool} (hc : MT Z c mc p) (ha : MSs Z a m1) (hb : MSs Z b m2) : MS Z (.If c a b pos) (sIf mc m1 m2) := ps_imp (ps_if hc ha hb) fun E σ H q => by
  obtain ⟨env, G, Os, s, q⟩ := q
  refine ⟨env, G, Os, s, ?_⟩
  unfold sIf Sm.bind at q
  cases e : mc env with
  | bad => rw [e] at q; exact q
  | ex c env1 =>
    rw [e] at q
    exact fun G' H' Os' s' t => q σ G' H' Os' s' t.st (IoS.refl _)
  | ok b env1 =>
    rw [e] at q
    intro G1 H1 Os1 s1 t1
    cases b with
    | true =>
      rw [if_pos rfl]
      exact TSx.on s1 t1.st (IoS.refl _) q
    | false =>
      rw [if_neg Bool.false_ne_true]
      exact TSx.on s1 t1.st (IoS.refl _) q
def sDrop (m : Sm W) : Sm Fl := Sm.bind m fun _ => Sm.ret .nx
def sRet (k : Bool) (m : Sm W) : Sm Fl := Sm.bind m fun w => if (k || w.frz) = true then Sm.ret (.rt w) else fun _ => .bad
theorem frz_own {D : Dn} {k : Bool} {w : W} {v : V} {env : List W} {σ : St} {G H : Hp} {Os : List (List Addr)} {Ow : List Addr} (s : StOk D G H env σ Os) (r : RO D G H w v Ow) (o : OwnK k Os Ow G) (h : (k || w.frz) = true) : OwnK true Os Ow G := by
  cases k with
  | true => exact o
  | false =>
    rw [Bool.false_or] at h
    obtain ⟨rfl, _⟩ := r.toF h
    exact OwnK.nil s
theorem kO_of {D : Dn} {G H : Hp} {k : Bool} {w : W} {v : V} {Ow : List Addr} (r : RO D G H w v Ow) (h : (k || w.frz) = true) : ∀ a ∈ Ow, a ∈ kO k Ow := by
  cases k with
  | true => exact fun a ha => ha
  | false =>
    rw [Bool.false_or] at h
    obtain ⟨rfl, _⟩ := r.toF h
    exact fun a ha => ha
variable {e : Expr} {me : Sm W} {p k : Bool}
theorem ms_expr (he : ME Z e me p k) (hs : swapsWith e none pos.line Z.X.env = pure false := by rfl) : MS Z (.Expr e pos) (sDrop me) := ps_imp (ps_expr he hs) fun E σ H q => by
  obtain ⟨env, G, Os, s, q⟩ := q
  refine ⟨env, G, Os, s, ?_⟩
  unfold sDrop Sm.bind at q
  cases e : me env with
  | bad => rw [e] at q; exact q
  | ex c env1 =>
    rw [e] at q
    exact fun G' H' Os' s' t => q σ G' H' Os' s' t.st (IoS.refl _)
  | ok w env1 =>
    rw [e] at q
    exact fun v G' H' Os' Ow s' r o t => q σ G' H' Os' s' t.st (IoS.refl _)
theorem ms_ret (he : ME Z e me p k) : MS Z (.Return (some e) pos) (sRet k me) := ps_imp (ps_ret he) fun E σ H q => by
  obtain ⟨env, G, Os, s, q⟩ := q
  refine ⟨env, G, Os, s, ?_⟩
  unfold sRet Sm.bind at q
  cases e : me env with
  | bad => rw [e] at q; exact q
  | ex c env1 =>
    rw [e] at q
    exact fun G' H' Os' s' t => q σ G' H' Os' s' t.st (IoS.refl _)
  | ok w env1 =>
    rw [e] at q
    intro v G' H' Os' Ow s' r o t
    by_cases hf : (k || w.frz) = true
    · simp only [if_pos hf] at q
      refine q v σ G' H' Os' Ow s' r (frz_own s' r o hf) (t.gen.less fun a ha => ?_) (IoS.refl _)
      exact (List.mem_append.mp ha).elim (List.mem_append_left _) fun z => List.mem_append_right _ (kO_of r hf a z)
    · simp only [if_neg hf] at q
      exact q.elim
theorem ms_retN : MS Z (.Return none pos) (Sm.ret (.rt .non)) := ps_imp ps_retN fun E σ H q => by
  obtain ⟨env, G, Os, s, q⟩ := q
  exact q .non σ G H Os [] s ⟨rfl, rfl⟩ (OwnK.nil s) (by rw [List.append_nil]; exact Step.refl _ _ _) (IoS.refl _)

/-! ### stores to names -/
def sSet (i : Nat) (k : Bool) (m : Sm W) : Sm Fl := Sm.bind m fun w env => if (k || w.frz) = true then .ok .nx (env.set i w) else .bad
theorem flat_upd {Os : List (List Addr)} {i : Nat} {O : List Addr} (hi : i < Os.length) : ((Os.set i O).flatten ++ Os[i]).Perm (Os.flatten ++ O) := flat_set (List.getElem?_eq_getElem hi)
/-- a name's slot is given what is new -/
theorem StOk.put {D : Dn} {G H : Hp} {env : List W} {σ : St} {Os : List (List Addr)} {w : W} {v : V} {Ow : List Addr} (i : Nat) (hi : i < σ.length) (s : StOk D G H env σ Os) (r : RO D G H w v Ow) (o : OwnK true Os Ow G) :
    StOk D G H (env.set i w) (σ.set i (some v)) (Os.set i Ow) ∧ ∀ a ∈ (Os.set i Ow).flatten, a ∈ Os.flatten ++ Ow := by
  have pm := flat_upd (O := Ow) (by rw [s.sl.len.2]; exact hi : i < Os.length)
  have inn : ∀ a ∈ (Os.set i Ow).flatten, a ∈ Os.flatten ++ Ow := fun a ha => pm.mem_iff.mp (List.mem_append_left _ ha)
  refine ⟨⟨Sl.set (.inl ⟨v, rfl, r⟩) i s.sl, s.sub, fun a ha => ?_, (List.nodup_append.mp (pm.nodup_iff.mpr o.1)).1⟩, inn⟩
  rcases List.mem_append.mp (inn a ha) with z | z
  · exact s.gn a z
  · exact o.2 a z
theorem ms_set {i : Nat} {x : Str} {p2 : Pos} (hN : Z.X.N.Nodup) (he : ME Z e me p k) (hi : Z.X.N[i]? = some x := by rfl) (hx : Loc Z.X.env.scope x := by first | exact Or.inl rfl | exact Or.inr rfl) (hio : Z.io i = false := by rfl) (hs : swapsWith e (some (.Name x p2)) pos.line Z.X.env = pure false := by rfl)
    (hf : Z.X.fn x = true ∨ Z.X.env.scope.names.lookup x = some .local := by first | exact .inl rfl | exact .inr rfl | assumption) : MS Z (.Assign [.Name x p2] e pos) (sSet i k me) := by
  have core := ps_set (X := Z.X) (i := i) (pos' := p2) (pos := pos) hN hi hx he hs hf
  refine ⟨fun pins sh σ H D I q => ?_⟩
  have hlen := I.len
  refine core.run pins sh σ H D I ?_
  obtain ⟨env, G, Os, s, q⟩ := q
  refine ⟨env, G, Os, s, ?_⟩
  unfold sSet Sm.bind at q
  cases e : me env with
  | bad => rw [e] at q; exact q
  | ex c env1 =>
    rw [e] at q
    exact fun G' H' Os' s' t => q σ G' H' Os' s' t.st (IoS.refl _)
  | ok w env1 =>
    rw [e] at q
    intro v G' H' Os' Ow s' r o t
    by_cases hf : (k || w.frz) = true
    · simp only [if_pos hf] at q
      obtain ⟨s2, inn⟩ := s'.put i (by rw [hlen]; exact (List.getElem?_eq_some_iff.mp hi).1) r (frz_own s' r o hf)
      refine q (σ.set i (some v)) G' H' (Os'.set i Ow) s2 (t.gen.less fun a ha => ?_) (IoS.set hio)
      exact (List.mem_append.mp (inn a ha)).elim (List.mem_append_left _) fun z => List.mem_append_right _ (kO_of r hf a z)
    · simp only [if_neg hf] at q
      exact q.elim

end

/-! ### targets: a name; names in a tuple -/
/-- store frozen things by a target -/
abbrev Tg := W → List W → Option (List W)
def TGx (D : Dn) (io : Nat → Bool) (f : Tg) : TG := fun v σ H Q => ∃ (env : List W) (G : Hp) (Os : List (List Addr)) (w : W) (env' : List W), StOk D G H env σ Os ∧ RF D G w v ∧ f w env = some env' ∧ ∀ σ' Os', StOk D G H env' σ' Os' → (∀ a ∈ Os'.flatten, a ∈ Os.flatten) → IoS io σ σ' → σ'.length = σ.length → Q σ' H
abbrev MG (Z : Zt) (t : Expr) (f : Tg) : Prop := PG Z.X t (TGx Z.D Z.io f)
theorem pg_imp {X : Cx} {e : Expr} {t t' : TG} (h : PG X e t) (i : ∀ v σ H Q, t' v σ H Q → t v σ H Q) : PG X e t' := ⟨fun pins s σ H v u Q I r w => h.run pins s σ H v u Q I r (i v σ H Q w)⟩
theorem flat_sub : ∀ {Os : List (List Addr)} {i : Nat}, ∀ a ∈ (Os.set i []).flatten, a ∈ Os.flatten
  | [], _, _, h => h
  | P :: Os, 0, a, h => by
    rw [List.set_cons_zero, List.flatten_cons, List.nil_append] at h
    rw [List.flatten_cons]; exact List.mem_append_right _ h
  | P :: Os, i + 1, a, h => by
    rw [List.set_cons_succ, List.flatten_cons] at h
    rw [List.flatten_cons]
    exact (List.mem_append.mp h).elim (List.mem_append_left _) fun z => List.mem_append_right _ (flat_sub a z)
theorem flat_nd : ∀ {Os : List (List Addr)} {i : Nat}, Os.flatten.Nodup → (Os.set i []).flatten.Nodup
  | [], _, h => h
  | P :: Os, 0, h => by
    rw [List.set_cons_zero, List.flatten_cons, List.nil_append]
    rw [List.flatten_cons] at h
    exact (List.nodup_append.mp h).2.1
  | P :: Os, i + 1, h => by
    rw [List.set_cons_succ, List.flatten_cons]
    rw [List.flatten_cons] at h
    obtain ⟨h1, h2, h3⟩ := List.nodup_append.mp h
    exact List.nodup_append.mpr ⟨h1, flat_nd h2, fun a ha b hb => h3 a ha b (flat_sub b hb)⟩
theorem StOk.putF {D : Dn} {G H : Hp} {env : List W} {σ : St} {Os : List (List Addr)} {w : W} {v : V} (i : Nat) (s : StOk D G H env σ Os) (r : RF D G w v) : StOk D G H (env.set i w) (σ.set i (some v)) (Os.set i []) :=
  ⟨Sl.set (.inl ⟨v, rfl, RO.ofF r⟩) i s.sl, s.sub, fun a ha => s.gn a (flat_sub a ha), flat_nd s.nd⟩
def tgN (i : Nat) : Tg := fun w env => some (env.set i w)
def tgL : List Nat → List W → List W → Option (List W)
  | [], [], env => some env
  | i :: is, w :: ws, env => tgL is ws (env.set i w)
  | _, _, _ => none
def tgT (is : List Nat) : Tg := fun w env => match w with
  | .tup ws => tgL is ws env
  | _ => none
theorem mg_name {Z : Zt} {i : Nat} {x : Str} {pos : Pos} (hN : Z.X.N.Nodup) (hi : Z.X.N[i]? = some x := by rfl) (hx : Loc Z.X.env.scope x := by first | exact Or.inl rfl | exact Or.inr rfl) (hio : Z.io i = false := by rfl)
    (hf : Z.X.fn x = true ∨ Z.X.env.scope.names.lookup x = some .local := by first | exact .inl rfl | exact .inr rfl | assumption) : MG Z (.Name x pos) (tgN i) := pg_imp (pg_name hN hi hx hf) fun v σ H Q q => by
  obtain ⟨env, G, Os, w, env', s, r, e, q⟩ := q
  cases e
  exact q _ _ (s.putF i r) (fun a ha => flat_sub a ha) (IoS.set hio) (List.length_set)
def MGs (Z : Zt) (ts : List Expr) (is : List Nat) : Prop := PGs Z.X ts (fun vs σ H Q => ∃ (env : List W) (G : Hp) (Os : List (List Addr)) (ws : List W) (env' : List W), StOk Z.D G H env σ Os ∧ RFs Z.D G ws vs ∧ tgL is ws env = some env' ∧ ∀ σ' Os', StOk Z.D G H env' σ' Os' → (∀ a ∈ Os'.flatten, a ∈ Os.flatten) → IoS Z.io σ σ' → σ'.length = σ.length → Q σ' H)
theorem pgs_imp {X : Cx} {e : List Expr} {t t' : TGs} (h : PGs X e t) (i : ∀ v σ H Q, t' v σ H Q → t v σ H Q) : PGs X e t' := ⟨fun pins s σ H v u Q I r w => h.run pins s σ H v u Q I r (i v σ H Q w)⟩
theorem mgs_nil {Z : Zt} : MGs Z [] [] := pgs_imp pgs_nil fun vs σ H Q q => by
  obtain ⟨env, G, Os, ws, env', s, r, e, q⟩ := q
  cases ws with
  | nil =>
    cases e
    exact ⟨r, q σ Os s (fun _ h => h) (IoS.refl _) rfl⟩
  | cons _ _ => cases e
theorem mgs_cons {Z : Zt} {i : Nat} {is : List Nat} {x : Str} {pos : Pos} {ts : List Expr} (hN : Z.X.N.Nodup) (ht : MGs Z ts is) (hi : Z.X.N[i]? = some x := by rfl) (hx : Loc Z.X.env.scope x := by first | exact Or.inl rfl | exact Or.inr rfl) (hio : Z.io i = false := by rfl)
    (hf : Z.X.fn x = true ∨ Z.X.env.scope.names.lookup x = some .local := by first | exact .inl rfl | exact .inr rfl | assumption) (hs : (assignEach (.Name x pos :: ts) Z.X.env).map (·.2) = assign (.Name x pos) Z.X.env :: (assignEach ts Z.X.env).map (·.2) := by rfl) :
    MGs Z (.Name x pos :: ts) (i :: is) := pgs_imp (pgs_cons (pg_name hN hi hx hf) ht hs) fun vs σ H Q q => by
  obtain ⟨env, G, Os, ws, env', s, r, e, q⟩ := q
  cases ws with
  | nil => cases e
  | cons w ws =>
    obtain ⟨v, us, rfl, h1, h2⟩ := r
    refine ⟨v, us, rfl, ?_⟩
    exact ⟨env.set i w, G, Os.set i [], ws, env', s.putF i h1, h2, e, fun σ' Os' s' hsub io' hl => q σ' Os' s' (fun a ha => flat_sub a (hsub a ha)) ((IoS.set hio).trans io') (hl.trans List.length_set)⟩
theorem mg_tup {Z : Zt} {es : List Expr} {is : List Nat} {k : Nat} {pos : Pos} (hc : Z.X.calm = true) (h : MGs Z es is) (hn : (assignEach es Z.X.env).length = is.length := by rfl) (hst : (assignEach es Z.X.env).findIdx? (·.1) = none := by rfl) : MG Z (.Tuple es k pos) (tgT is) :=
  pg_imp (pg_tup hc h hn hst) fun v σ H Q q => by
    obtain ⟨env, G, Os, w, env', s, r, e, q⟩ := q
    cases w with
    | tup ws =>
      obtain ⟨a, vs, rfl, h1, h2⟩ := r
      refine ⟨a, vs, rfl, s.sub.sqT h1, ?_, env, G, Os, ws, env', s, h2, e, q⟩
      rw [← h2.len]
      have key : ∀ (is : List Nat) (ws env env' : List W), tgL is ws env = some env' → ws.length = is.length := by
        intro is
        induction is with
        | nil =>
          intro ws env env' h
          cases ws with
          | nil => rfl
          | cons _ _ => cases h
        | cons i is ih =>
          intro ws env env' h
          cases ws with
          | nil => cases h
          | cons w ws => simp [ih ws _ _ h]
      exact key is ws env env' e
    | _ => cases e
/-- target = e -/
def sAsg (f : Tg) (m : Sm W) : Sm Fl := Sm.bind m fun w env => if w.frz = true then match f w env with
  | some env' => .ok .nx env'
  | none => .bad
  else .bad
theorem ms_asg {Z : Zt} {tg e : Expr} {f : Tg} {me : Sm W} {p k : Bool} {pos : Pos} (he : ME Z e me p k) (hg : MG Z tg f) (hs : swapsWithSole [tg] e pos.line Z.X.env = pure false := by rfl) (hw : swappedStores [tg] e Z.X.env = pure none := by rfl)
    (h1 : (assignEach [tg] Z.X.env).map (·.2) = [assign tg Z.X.env] := by rfl) : MS Z (.Assign [tg] e pos) (sAsg f me) := ps_imp (ps_asg he hg hs hw h1) fun E σ H q => by
  obtain ⟨env, G, Os, s, q⟩ := q
  refine ⟨env, G, Os, s, ?_⟩
  unfold sAsg Sm.bind at q
  cases e : me env with
  | bad => rw [e] at q; exact q
  | ex c env1 =>
    rw [e] at q
    exact fun G' H' Os' s' t => q σ G' H' Os' s' t.st (IoS.refl _)
  | ok w env1 =>
    rw [e] at q
    intro v G' H' Os' Ow s' r o t
    by_cases hf : w.frz = true
    · simp only [if_pos hf] at q
      obtain ⟨rfl, rf⟩ := r.toF hf
      cases e2 : f w env1 with
      | none => simp only [e2] at q; exact q.elim
      | some env' =>
        simp only [e2] at q
        exact ⟨env1, G', Os', w, env', s', rf, e2, fun σ' Os2 s2 hsub io' _ => q σ' G' H' Os2 s2 (t.st.less hsub) io'⟩
    · simp only [if_neg hf] at q
      exact q.elim
/-- x += e of ints -/
def sAug (i : Nat) (f : Int → Int → Int) (m : Sm W) : Sm Fl := fun env => match env[i]? with
  | some (.int a) => match m env with
    | .ok (.int b) env' => .ok .nx (env'.set i (.int (f a b)))
    | .ok _ _ => .bad
    | .ex c env' => .ex c env'
    | .bad => .bad
  | _ => .bad
theorem ms_aug {Z : Zt} {i : Nat} {x : Str} {op : Operator} {f : Int → Int → Int} {e : Expr} {me : Sm W} {p k : Bool} {p2 pos : Pos} (hN : Z.X.N.Nodup) (ho : PIp Z.X op (ipI f)) (he : ME Z e me p k) (hi : Z.X.N[i]? = some x := by rfl) (hx : Loc Z.X.env.scope x := by first | exact Or.inl rfl | exact Or.inr rfl) (hio : Z.io i = false := by rfl)
    (hf : Z.X.fn x = true ∨ Z.X.env.scope.names.lookup x = some .local := by first | exact .inl rfl | exact .inr rfl | assumption) : MS Z (.AugAssign (.Name x p2) op e pos) (sAug i f me) := ps_imp (ps_aug hN hi hx he ho hf) fun E σ H q => by
  obtain ⟨env, G, Os, s, q⟩ := q
  unfold sAug at q
  cases e1 : env[i]? with
  | none => rw [e1] at q; exact q.elim
  | some w =>
    cases w with
    | int a =>
      obtain ⟨sv, O, h1, h2, h3⟩ := s.sl.at e1
      rcases h3 with ⟨v, rfl, r⟩ | ⟨z, _⟩
      · obtain ⟨rfl, rfl⟩ := r
        refine ⟨.int a, h1, env, G, Os, s, ?_⟩
        rw [e1] at q
        cases e2 : me env with
        | bad => simp only [e2] at q; exact q
        | ex c env1 =>
          simp only [e2] at q
          exact fun G' H' Os' s' t => q σ G' H' Os' s' t.st (IoS.refl _)
        | ok w env1 =>
          cases w with
          | int b =>
            simp only [e2] at q
            intro v G' H' Os' Ow s' r o t
            obtain ⟨rfl, rfl⟩ := r
            refine ⟨a, b, rfl, rfl, ?_⟩
            exact q _ G' H' _ (s'.putF (w := .int (f a b)) (v := .int (f a b)) i rfl) (t.st.less fun a ha => flat_sub a ha) (IoS.set hio)
          | _ => simp only [e2] at q; exact q.elim
      · cases z
    | _ => rw [e1] at q; exact q.elim

/-! ### what is walked -/
def Walks (D : Dn) (J : It) (ws : List W) (G0 : Hp) : Prop := ∀ (i : Nat) (G H : Hp), Sub G0 G → Sub G H →
  (∀ x, ws[i]? = some x → J.go i H ∧ ∀ v H', J.yld i H v H' → ∃ G', Step G H [] G' H' [] ∧ Sub G' H' ∧ RF D G' x v) ∧ (ws.length ≤ i → J.stop i H)
def TIx (D : Dn) (Wx : WX) (p : Bool) (m : Sm (List W)) : TI := fun σ H R => ∃ (env : List W) (G : Hp) (Os : List (List Addr)), StOk D G H env σ Os ∧ match m env with
  | .ok ws env' => ∀ J G' H' Os', StOk D G' H' env' σ Os' → Stp p env G H Os env' G' H' Os' [] → Walks D J ws G' → R J H'
  | .ex c env' => ∀ G' H' Os', StOk D G' H' env' σ Os' → Stp p env G H Os env' G' H' Os' [] → Wx (.ref (D.CA c)) none σ H'
  | .bad => False
abbrev MI (Z : Zt) (tg it : Expr) (m : Sm (List W)) (p : Bool) : Prop := PI Z.X tg it (TIx Z.D Z.W p m)
theorem pi_imp {X : Cx} {tg e : Expr} {t t' : TI} (h : PI X tg e t) (i : ∀ σ H R, t' σ H R → t σ H R) : PI X tg e t' := ⟨fun pins s σ H R I w => h.run pins s σ H R I (i σ H R w)⟩
/-- the items of a frozen list -/
def frzL : W → Option (List W)
  | .lst false ws => some ws
  | .scr ws => some ws
  | _ => none
theorem walks_list {D : Dn} {G0 : Hp} {a : Addr} {ws : List W} {vs : List V} (h : SqL D.K G0 a vs) (r : RFs D G0 ws vs) : Walks D (Itl D.K a) ws G0 := fun i G H s0 s => by
  have hs : SqL D.K H a vs := s.sqL (s0.sqL h)
  refine ⟨fun x e => ?_, fun hl => ⟨vs, hs, by rw [← r.len]; exact hl⟩⟩
  obtain ⟨v, h1, h2⟩ := r.get e
  refine ⟨⟨vs, v, hs, h1⟩, fun v' H' y => ?_⟩
  obtain ⟨rfl, y⟩ := y
  have e2 : v' = v := Option.some.inj ((y vs hs).symm.trans h1)
  subst e2
  exact ⟨G, Step.refl _ _ _, s, RF.mono s0 _ _ h2⟩
def iLst (m : Sm W) : Sm (List W) := Sm.bind m fun w => lft (frzL w)
theorem mi_list {Z : Zt} {tg e : Expr} {m : Sm W} {p k : Bool} (h : ME Z e m p k) : MI Z tg e (iLst m) p := pi_imp (pi_list h) fun σ H R q => by
  obtain ⟨env, G, Os, s, q⟩ := q
  refine ⟨env, G, Os, s, ?_⟩
  unfold iLst Sm.bind lft at q
  cases e : m env with
  | bad => rw [e] at q; exact q
  | ex c env1 => rw [e] at q; exact q
  | ok w env1 =>
    rw [e] at q
    intro v G' H' Os' Ow s' r o t
    have t' := t.less (O2 := []) kO_less
    cases w with
    | lst b ws =>
      cases b with
      | true => exact q.elim
      | false =>
        obtain ⟨rfl, a, vs, rfl, h1, h2⟩ := r
        exact ⟨a, rfl, ⟨vs, SqL.of (s'.sub _ _ h1)⟩, q _ G' H' Os' s' t' (walks_list (SqL.of h1) h2)⟩
    | scr ws =>
      obtain ⟨rfl, a, vs, rfl, h1, h2⟩ := r
      exact ⟨a, rfl, ⟨vs, s'.sub.sqL h1⟩, q _ G' H' Os' s' t' (walks_list h1 h2)⟩
    | _ => exact q.elim
/-- ranges -/
def rngL (lo : Int) (n : Nat) : List W := (List.range n).map fun i => .int (lo + (i : Nat))
theorem walks_rng {D : Dn} {G0 : Hp} {lo : Int} {n : Nat} : Walks D (Itr lo n) (rngL lo n) G0 := fun i G H s0 s => by
  have hlen : (rngL lo n).length = n := by unfold rngL; rw [List.length_map, List.length_range]
  refine ⟨fun x e => ?_, fun hl => by rw [hlen] at hl; exact hl⟩
  have hi : i < n := by rw [← hlen]; exact (List.getElem?_eq_some_iff.mp e).1
  refine ⟨hi, fun v H' y => ?_⟩
  obtain ⟨rfl, rfl⟩ := y
  refine ⟨G, Step.refl _ _ _, s, ?_⟩
  unfold rngL at e
  rw [List.getElem?_map, List.getElem?_range hi] at e
  cases e
  rfl
def rngOk (i : Int) : Prop := -(2 ^ 62) ≤ i ∧ i < 2 ^ 62
noncomputable instance {i : Int} : Decidable (rngOk i) := Classical.propDecidable _
noncomputable def rng1 : List W → Option (List W)
  | [.int j] => if rngOk j then some (rngL 0 j.toNat) else none
  | _ => none
noncomputable def rng2 : List W → Option (List W)
  | [.int i, .int j] => if rngOk i ∧ rngOk j then some (rngL i (j - i).toNat) else none
  | _ => none
def rngC (lo c : Int) (n : Nat) : List W := (List.range n).map fun i => .int (lo + (i : Nat) * c)
theorem walks_rngC {D : Dn} {G0 : Hp} {lo c : Int} {n : Nat} : Walks D (Itc lo c n) (rngC lo c n) G0 := fun i G H s0 s => by
  have hlen : (rngC lo c n).length = n := by unfold rngC; rw [List.length_map, List.length_range]
  refine ⟨fun x e => ?_, fun hl => by rw [hlen] at hl; exact hl⟩
  have hi : i < n := by rw [← hlen]; exact (List.getElem?_eq_some_iff.mp e).1
  refine ⟨hi, fun v H' y => ?_⟩
  obtain ⟨rfl, rfl⟩ := y
  refine ⟨G, Step.refl _ _ _, s, ?_⟩
  unfold rngC at e
  rw [List.getElem?_map, List.getElem?_range hi] at e
  cases e
  rfl
def iArgs (f : List W → Option (List W)) (m : Sm (List W)) : Sm (List W) := Sm.bind m fun ws => lft (f ws)
theorem ta_iter {D : Dn} {Wx : WX} {f : List W → Option (List W)} {m : Sm (List W)} {p : Bool} {σ : St} {H : Hp} {R : It → Hp → Prop} {r : List V → Hp → (It → Hp → Prop) → Prop}
    (o : ∀ (G H : Hp) (ws xs : List W) (vs : List V) (R : It → Hp → Prop), Sub G H → RFs D G ws vs → f ws = some xs → (∀ J, Walks D J xs G → R J H) → r vs H R) (q : TIx D Wx p (iArgs f m) σ H R) : TA' D Wx p m σ H fun vs H1 => r vs H1 R := by
  obtain ⟨env, G, Os, s, q⟩ := q
  refine ⟨env, G, Os, s, ?_⟩
  unfold iArgs Sm.bind lft at q
  cases e : m env with
  | bad => rw [e] at q; exact q
  | ex c env1 => rw [e] at q; exact q
  | ok ws env1 =>
    rw [e] at q
    intro vs G' H' Os' s' rr t
    cases e2 : f ws with
    | none => simp only [e2] at q
    | some xs =>
      simp only [e2] at q
      exact o G' H' ws xs vs R s'.sub rr e2 fun J w => q J G' H' Os' s' t w
section
variable {Z : Zt} {tg a b c : Expr} {m : Sm (List W)} {p : Bool} {p1 p2 : Pos}
theorem RFs.int1 {D : Dn} {G : Hp} {i : Int} {vs : List V} (h : RFs D G [.int i] vs) : vs = [.int i] := RFs.ints (ns := [i]) h
theorem mi_range1 (hm : Z.X.mg "range" = none) (ha : MA Z [a] m p) (hg : Gl Z.X "range" := by rfl) (hs : starEach [a] Z.X.env = [(false, eval a Z.X.env)] := by rfl) : MI Z tg (.Call (.Name "range" p1) [a] [] p2) (iArgs rng1 m) p :=
  pi_imp (pi_range1 hg hm ha hs) fun σ H R q => ta_iter (r := fun vs H1 R => ∃ j : Int, vs = [.int j] ∧ -(2 ^ 62) ≤ j ∧ j < 2 ^ 62 ∧ R (Itr 0 j.toNat) H1) (fun G H ws xs vs R s r e q => by
    unfold rng1 at e
    split at e
    · rename_i j
      by_cases h : rngOk j
      · rw [if_pos h] at e
        cases e
        exact ⟨j, r.int1, h.1, h.2, q _ walks_rng⟩
      · rw [if_neg h] at e; cases e
    · cases e) q
theorem mi_range2 (hm : Z.X.mg "range" = none) (ha : MA Z [a, b] m p) (hg : Gl Z.X "range" := by rfl) (hs : starEach [a, b] Z.X.env = [(false, eval a Z.X.env), (false, eval b Z.X.env)] := by rfl) (hs2 : starEach [b] Z.X.env = [(false, eval b Z.X.env)] := by rfl) : MI Z tg (.Call (.Name "range" p1) [a, b] [] p2) (iArgs rng2 m) p :=
  pi_imp (pi_range2 hg hm ha hs hs2) fun σ H R q => ta_iter (r := fun vs H1 R => ∃ i j : Int, vs = [.int i, .int j] ∧ (-(2 ^ 62) ≤ i ∧ i < 2 ^ 62 ∧ -(2 ^ 62) ≤ j ∧ j < 2 ^ 62) ∧ R (Itr i (j - i).toNat) H1) (fun G H ws xs vs R s r e q => by
    unfold rng2 at e
    split at e
    · rename_i i j
      by_cases h : rngOk i ∧ rngOk j
      · rw [if_pos h] at e
        cases e
        exact ⟨i, j, r.two, ⟨h.1.1, h.1.2, h.2.1, h.2.2⟩, q _ walks_rng⟩
      · rw [if_neg h] at e; cases e
    · cases e) q
theorem walks_enum {D : Dn} {G0 : Hp} {a : Addr} {ws : List W} {vs : List V} (h : SqL D.K G0 a vs) (r : RFs D G0 ws vs) : Walks D (Ite D.K a) (ws.zipIdx.map fun q => .tup [.int (q.2 : Nat), q.1]) G0 := fun i G H s0 s => by
  have hs : SqL D.K H a vs := s.sqL (s0.sqL h)
  refine ⟨fun x e => ?_, fun hl => ⟨vs, hs, by rw [← r.len]; rw [List.length_map, List.length_zipIdx] at hl; exact hl⟩⟩
  rw [List.getElem?_map, List.getElem?_zipIdx] at e
  cases e1 : ws[i]? with
  | none => rw [e1] at e; cases e
  | some w =>
    rw [e1] at e
    cases e
    obtain ⟨v, h1, h2⟩ := r.get e1
    refine ⟨⟨vs, v, hs, h1⟩, fun v' H' y => ?_⟩
    obtain ⟨T, x, rfl, nT, rfl, y⟩ := y
    have e2 : x = v := Option.some.inj ((y vs hs).symm.trans h1)
    subst e2
    have st := step_frz (o := .tup [.int (i : Nat), x]) s nT
    refine ⟨_, st, sub_upd2 s, T, _, rfl, SqT.of upd_same, ?_⟩
    exact ⟨_, _, rfl, (by rw [Nat.zero_add]; rfl), _, _, rfl, RF.mono (s0.trans st.mono) _ _ h2, rfl⟩
def enumL : List W → Option (List W)
  | [w] => (frzL w).map fun ws => ws.zipIdx.map fun q => .tup [.int (q.2 : Nat), q.1]
  | _ => none
theorem frzL_at {D : Dn} {G : Hp} {w : W} {v : V} {ws : List W} (r : RF D G w v) (e : frzL w = some ws) : ∃ a vs, v = .ref a ∧ SqL D.K G a vs ∧ RFs D G ws vs := by
  cases w with
  | lst b xs =>
    cases b with
    | true => cases e
    | false =>
      cases e
      obtain ⟨a, vs, rfl, h1, h2⟩ := r
      exact ⟨a, vs, rfl, SqL.of h1, h2⟩
  | scr xs =>
    cases e
    obtain ⟨a, vs, rfl, h1, h2⟩ := r
    exact ⟨a, vs, rfl, h1, h2⟩
  | _ => cases e
theorem mi_enum {elts : List Expr} {kk : Nat} {tpos : Pos} (hm : Z.X.mg "enumerate" = none) (ha : MA Z [a] m p) (hg : Gl Z.X "enumerate" := by rfl) (hs : starEach [a] Z.X.env = [(false, eval a Z.X.env)] := by rfl) : MI Z (.Tuple elts kk tpos) (.Call (.Name "enumerate" p1) [a] [] p2) (iArgs enumL m) p :=
  pi_imp (pi_enum hg hm ha hs) fun σ H R q => ta_iter (r := fun vs H1 R => ∃ a xs, vs = [.ref a] ∧ SqL Z.X.K H1 a xs ∧ R (Ite Z.X.K a) H1) (fun G H ws xs vs R s r e q => by
    unfold enumL at e
    split at e
    · rename_i w
      cases e1 : frzL w with
      | none => rw [e1] at e; cases e
      | some ys =>
        rw [e1] at e
        cases e
        obtain ⟨v, _, rfl, h1, h2⟩ := r
        cases h2
        obtain ⟨a, us, rfl, h3, h4⟩ := frzL_at h1 e1
        exact ⟨a, us, rfl, s.sqL h3, q _ (walks_enum h3 h4)⟩
    · cases e) q
theorem walks_zip {D : Dn} {G0 : Hp} {a b : Addr} {ws xs : List W} {vs us : List V} (h : SqL D.K G0 a vs) (r : RFs D G0 ws vs) (h' : SqL D.K G0 b us) (r' : RFs D G0 xs us) : Walks D (Itz D.K a b) ((ws.zip xs).map fun q => .tup [q.1, q.2]) G0 := fun i G H s0 s => by
  have hs : SqL D.K H a vs := s.sqL (s0.sqL h)
  have hs' : SqL D.K H b us := s.sqL (s0.sqL h')
  refine ⟨fun x e => ?_, fun hl => ⟨vs, us, hs, hs', ?_⟩⟩
  · rw [List.getElem?_map] at e
    cases e1 : (ws.zip xs)[i]? with
    | none => rw [e1] at e; cases e
    | some w =>
      rw [e1] at e
      cases e
      obtain ⟨k1, k2⟩ := List.getElem?_zip_eq_some.mp e1
      obtain ⟨v, h1, h2⟩ := r.get k1
      obtain ⟨u, g1, g2⟩ := r'.get k2
      refine ⟨⟨vs, us, v, u, hs, hs', h1, g1⟩, fun v' H' y => ?_⟩
      obtain ⟨T, x, y', rfl, nT, rfl, y1, y2⟩ := y
      have e2 : x = v := Option.some.inj ((y1 vs hs).symm.trans h1)
      have e3 : y' = u := Option.some.inj ((y2 us hs').symm.trans g1)
      subst e2 e3
      have st := step_frz (o := .tup [x, y']) s nT
      refine ⟨_, st, sub_upd2 s, T, _, rfl, SqT.of upd_same, ?_⟩
      exact ⟨_, _, rfl, RF.mono (s0.trans st.mono) _ _ h2, _, _, rfl, RF.mono (s0.trans st.mono) _ _ g2, rfl⟩
  · rw [List.length_map, List.length_zip] at hl
    rw [← r.len, ← r'.len]
    omega
def zipL : List W → Option (List W)
  | [w, x] => (frzL w).bind fun ws => (frzL x).map fun xs => (ws.zip xs).map fun q => .tup [q.1, q.2]
  | _ => none
theorem mi_zip {elts : List Expr} {kk : Nat} {tpos : Pos} (hm : Z.X.mg "zip" = none) (ha : MA Z [a, b] m p) (hg : Gl Z.X "zip" := by rfl) (hs : starEach [a, b] Z.X.env = (false, eval a Z.X.env) :: starEach [b] Z.X.env := by rfl) (hpl : (backTo p2 (starEach [b] Z.X.env)).any (·.1) = false := by rfl) :
    MI Z (.Tuple elts kk tpos) (.Call (.Name "zip" p1) [a, b] [] p2) (iArgs zipL m) p :=
  pi_imp (pi_zip hg hm ha hs hpl) fun σ H R q => ta_iter (r := fun vs H1 R => ∃ a b xs ys, vs = [.ref a, .ref b] ∧ SqL Z.X.K H1 a xs ∧ SqL Z.X.K H1 b ys ∧ R (Itz Z.X.K a b) H1) (fun G H ws xs vs R s r e q => by
    unfold zipL at e
    split at e
    · rename_i w x
      cases e1 : frzL w with
      | none => rw [e1] at e; cases e
      | some ys =>
        cases e2 : frzL x with
        | none => rw [e1, Option.bind_some, e2] at e; cases e
        | some zs =>
          rw [e1, Option.bind_some, e2] at e
          cases e
          obtain ⟨v, _, rfl, h1, u, _, rfl, h2, h3⟩ := r
          cases h3
          obtain ⟨a, us, rfl, h3, h4⟩ := frzL_at h1 e1
          obtain ⟨b, us', rfl, h5, h6⟩ := frzL_at h2 e2
          exact ⟨a, b, us, us', rfl, s.sqL h3, s.sqL h5, q _ (walks_zip h3 h4 h5 h6)⟩
    · cases e) q
end
end Ev

namespace Ev
open PySem PySem.Spec L2

/-! ### slots forgotten -/
def killE : List Nat → List W → List W
  | [], env => env
  | i :: is, env => killE is (env.set i .dead)
def killO : List Nat → List (List Addr) → List (List Addr)
  | [], Os => Os
  | i :: is, Os => killO is (Os.set i [])
theorem Sl.kill1 {D : Dn} {G H : Hp} : ∀ {env : List W} {σ : St} {Os : List (List Addr)} (i : Nat), Sl D G H env σ Os → Sl D G H (env.set i .dead) σ (Os.set i [])
  | [], _, _, _, h => by rw [h.1, h.2]; exact ⟨rfl, rfl⟩
  | _ :: env, _, _, 0, h => by
    obtain ⟨s', σ', O', Os', rfl, rfl, h1, h2⟩ := h
    exact ⟨s', σ', [], Os', rfl, rfl, .inr ⟨rfl, rfl⟩, h2⟩
  | _ :: env, _, _, i + 1, h => by
    obtain ⟨s', σ', O', Os', rfl, rfl, h1, h2⟩ := h
    exact ⟨s', σ', O', _, rfl, rfl, h1, Sl.kill1 i h2⟩
theorem killO_sub : ∀ {is : List Nat} {Os : List (List Addr)}, ∀ a ∈ (killO is Os).flatten, a ∈ Os.flatten
  | [], _, _, h => h
  | i :: is, Os, a, h => flat_sub a (killO_sub a h)
theorem killO_nd : ∀ {is : List Nat} {Os : List (List Addr)}, Os.flatten.Nodup → (killO is Os).flatten.Nodup
  | [], _, h => h
  | i :: is, Os, h => killO_nd (is := is) (Os := Os.set i []) (flat_nd h)
theorem Sl.kill {D : Dn} {G H : Hp} : ∀ (is : List Nat) {env : List W} {σ : St} {Os : List (List Addr)}, Sl D G H env σ Os → Sl D G H (killE is env) σ (killO is Os)
  | [], _, _, _, h => h
  | i :: is, _, _, _, h => Sl.kill is (h.kill1 i)
theorem StOk.kill {D : Dn} {G H : Hp} {env : List W} {σ : St} {Os : List (List Addr)} (is : List Nat) (s : StOk D G H env σ Os) : StOk D G H (killE is env) σ (killO is Os) :=
  ⟨s.sl.kill is, s.sub, fun a ha => s.gn a (killO_sub a ha), killO_nd s.nd⟩

/-! ### for -/
def mFor (f : Tg) (body : Sm Fl) (kill : List Nat) : List W → Sm Fl
  | [], env => .ok .nx env
  | x :: xs, env => match f x env with
    | none => .bad
    | some env1 => match body env1 with
      | .ok .nx env2 => mFor f body kill xs (killE kill env2)
      | .ok .ct env2 => mFor f body kill xs (killE kill env2)
      | .ok .bk env2 => .ok .nx env2
      | .ok (.rt w) env2 => .ok (.rt w) env2
      | .ex c env2 => .ex c env2
      | .bad => .bad
def sFor (f : Tg) (body : Sm Fl) (kill : List Nat) (mi : Sm (List W)) : Sm Fl := Sm.bind mi fun ws => mFor f body kill ws
theorem ms_for {Z : Zt} {tg it : Expr} {body : List Stmt} {f : Tg} {mb : Sm Fl} {mi : Sm (List W)} {p : Bool} {pos : Pos} (kill : List Nat) (hp : PassesOwn (model Z.X.prog Z.X.w) Z.X.A Z.X.env Z.X.xe) (hc : Z.X.calm = true) (hi : MI Z tg it mi p) (hg : MG Z tg f) (hb : MSs Z body mb)
    (hs : ∀ x, foldedSetIterable it Z.X.env x = pure x := by intro _; rfl) : MS Z (.For tg it body [] pos) (sFor f mb kill mi) := ps_imp (ps_for hp hc hi hg hb hs) fun E σ H q => by
  obtain ⟨env, G, Os, s, q⟩ := q
  refine ⟨env, G, Os, s, ?_⟩
  unfold sFor Sm.bind at q
  cases e : mi env with
  | bad => rw [e] at q; exact q
  | ex c env1 =>
    rw [e] at q
    exact fun G' H' Os' s' t => q σ G' H' Os' s' t.st (IoS.refl _)
  | ok ws env1 =>
    rw [e] at q
    intro J G1 H1 Os1 s1 t1 wk
    have q1 : PostS Z.D Z.W Z.io E σ G1 H1 Os1 (mFor f mb kill ws env1) := PostS.on t1.st (IoS.refl _) q
    refine ⟨fun i m σ' H' => m = ws.length - i ∧ i ≤ ws.length ∧ ∃ env' G' Os', StOk Z.D G' H' env' σ' Os' ∧ Sub G1 G' ∧ PostS Z.D Z.W Z.io E σ' G' H' Os' (mFor f mb kill (ws.drop i) env'),
      ⟨ws.length, rfl, Nat.zero_le _, env1, G1, Os1, s1, Sub.refl _, q1⟩, ?_⟩
    rintro i m σ2 H2 ⟨rfl, hi, env2, G2, Os2, s2, sub, q2⟩
    obtain ⟨w1, w2⟩ := wk i G2 H2 sub s2.sub
    by_cases hl : i < ws.length
    · have ei : ws[i]? = some ws[i] := List.getElem?_eq_getElem hl
      obtain ⟨go, yl⟩ := w1 _ ei
      rw [List.drop_eq_getElem_cons hl] at q2
      refine .inr ⟨go, fun σ3 H3 => ∃ env3 G3 Os3, StOk Z.D G3 H3 env3 σ3 Os3 ∧ Sub G1 G3 ∧ PostS Z.D Z.W Z.io E σ3 G3 H3 Os3 (mFor f mb kill (ws.drop (i + 1)) env3), fun σ3 H3 ⟨env3, G3, Os3, s3, sub3, q3⟩ => ⟨ws.length - (i + 1), by omega, rfl, hl, env3, G3, Os3, s3, sub3, q3⟩, fun v H3 y => ?_⟩
      obtain ⟨G3, t3, sub3, r3⟩ := yl v H3 y
      have s3 := s2.step t3 sub3
      unfold mFor at q2
      cases ef : f ws[i] env2 with
      | none => simp only [ef] at q2; exact q2.elim
      | some env3 =>
        simp only [ef] at q2
        have t3' : Step G2 H2 Os2.flatten G3 H3 Os2.flatten := by
          have z := t3.pure0 (O := Os2.flatten)
          rwa [List.append_nil] at z
        refine ⟨env2, G3, Os2, ws[i], env3, s3, r3, ef, fun σ4 Os4 s4 hsub io4 _ => ⟨env3, G3, Os4, s4, ?_⟩⟩
        have t4 : Step G2 H2 Os2.flatten G3 H3 Os4.flatten := t3'.less hsub
        have again : ∀ {env5 : List W}, PostS Z.D Z.W Z.io E σ2 G2 H2 Os2 (mFor f mb kill (ws.drop (i + 1)) (killE kill env5)) → ∀ σ' G' H' Os', StOk Z.D G' H' env5 σ' Os' → Step G3 H3 Os4.flatten G' H' Os'.flatten → IoS Z.io σ4 σ' →
            ∃ env3 G3 Os3, StOk Z.D G3 H' env3 σ' Os3 ∧ Sub G1 G3 ∧ PostS Z.D Z.W Z.io E σ' G3 H' Os3 (mFor f mb kill (ws.drop (i + 1)) env3) := fun {env5} q5 σ' G' H' Os' s' t' io' => by
          refine ⟨killE kill env5, G', killO kill Os', s'.kill kill, (sub.trans t3.mono).trans t'.mono, ?_⟩
          exact PostS.on ((t4.trans t').less fun a ha => killO_sub a ha) (io4.trans io') q5
        cases eb : mb env3 with
        | bad => simp only [eb] at q2; exact q2
        | ex c env5 =>
          simp only [eb] at q2
          exact fun σ' G' H' Os' s' t' io' => q2 σ' G' H' Os' s' (t4.trans t') (io4.trans io')
        | ok fl env5 =>
          cases fl with
          | nx => simp only [eb] at q2; exact again q2
          | ct => simp only [eb] at q2; exact again q2
          | bk =>
            simp only [eb] at q2
            exact fun σ' G' H' Os' s' t' io' => q2 σ' G' H' Os' s' (t4.trans t') (io4.trans io')
          | rt w =>
            simp only [eb] at q2
            exact fun v σ' G' H' Os' Ow s' r o t' io' => q2 v σ' G' H' Os' Ow s' r o (t4.trans t') (io4.trans io')
    · have e2 : i = ws.length := by omega
      subst e2
      rw [List.drop_length] at q2
      exact .inl ⟨w2 (Nat.le_refl _), q2 σ2 G2 H2 Os2 s2 (Step.refl _ _ _) (IoS.refl _)⟩

/-! ### while -/
def mWhile (c : Sm Bool) (body : Sm Fl) (kill : List Nat) : Nat → Sm Fl
  | 0, _ => .bad
  | n + 1, env => match c env with
    | .bad => .bad
    | .ex x env1 => .ex x env1
    | .ok false env1 => .ok .nx env1
    | .ok true env1 => match body env1 with
      | .ok .nx env2 => mWhile c body kill n (killE kill env2)
      | .ok .ct env2 => mWhile c body kill n (killE kill env2)
      | .ok .bk env2 => .ok .nx env2
      | .ok (.rt w) env2 => .ok (.rt w) env2
      | .ex x env2 => .ex x env2
      | .bad => .bad
theorem ms_while {Z : Zt} {c : Expr} {body : List Stmt} {mc : Sm Bool} {mb : Sm Fl} {p : Bool} {pos : Pos} (n : Nat) (kill : List Nat) (hp : PassesOwn (model Z.X.prog Z.X.w) Z.X.A Z.X.env Z.X.xe) (hc : MT Z c mc p) (hb : MSs Z body mb) : MS Z (.While c body [] pos) (mWhile mc mb kill n) :=
  ps_imp (ps_while hp hc hb) fun E σ H q => by
    obtain ⟨env, G, Os, s, q⟩ := q
    refine ⟨fun m σ' H' => ∃ env' G' Os', StOk Z.D G' H' env' σ' Os' ∧ PostS Z.D Z.W Z.io E σ' G' H' Os' (mWhile mc mb kill m env'), ⟨n, env, G, Os, s, q⟩, ?_⟩
    rintro m σ2 H2 ⟨env2, G2, Os2, s2, q2⟩
    cases m with
    | zero => exact q2.elim
    | succ m =>
      refine ⟨env2, G2, Os2, s2, ?_⟩
      unfold mWhile at q2
      cases e : mc env2 with
      | bad => rw [e] at q2; exact q2
      | ex x env1 =>
        rw [e] at q2
        exact fun G' H' Os' s' t => q2 σ2 G' H' Os' s' t.st (IoS.refl _)
      | ok b env3 =>
        rw [e] at q2
        intro G3 H3 Os3 s3 t3
        cases b with
        | false =>
          rw [if_neg Bool.false_ne_true]
          exact q2 σ2 G3 H3 Os3 s3 t3.st (IoS.refl _)
        | true =>
          rw [if_pos rfl]
          refine ⟨fun σ' H' => ∃ env' G' Os', StOk Z.D G' H' env' σ' Os' ∧ PostS Z.D Z.W Z.io E σ' G' H' Os' (mWhile mc mb kill m env'), fun σ' H' h => ⟨m, Nat.lt_succ_self _, h⟩, env3, G3, Os3, s3, ?_⟩
          have again : ∀ {env5 : List W}, PostS Z.D Z.W Z.io E σ2 G2 H2 Os2 (mWhile mc mb kill m (killE kill env5)) → ∀ σ' G' H' Os', StOk Z.D G' H' env5 σ' Os' → Step G3 H3 Os3.flatten G' H' Os'.flatten → IoS Z.io σ2 σ' →
              ∃ env' G' Os', StOk Z.D G' H' env' σ' Os' ∧ PostS Z.D Z.W Z.io E σ' G' H' Os' (mWhile mc mb kill m env') := fun {env5} q5 σ' G' H' Os' s' t' io' =>
            ⟨killE kill env5, G', killO kill Os', s'.kill kill, PostS.on ((t3.st.trans t').less fun a ha => killO_sub a ha) io' q5⟩
          cases eb : mb env3 with
          | bad => simp only [eb] at q2; exact q2
          | ex x env5 =>
            simp only [eb] at q2
            exact fun σ' G' H' Os' s' t' io' => q2 σ' G' H' Os' s' (t3.st.trans t') io'
          | ok fl env5 =>
            cases fl with
            | nx => simp only [eb] at q2; exact again q2
            | ct => simp only [eb] at q2; exact again q2
            | bk =>
              simp only [eb] at q2
              exact fun σ' G' H' Os' s' t' io' => q2 σ' G' H' Os' s' (t3.st.trans t') io'
            | rt w =>
              simp only [eb] at q2
              exact fun v σ' G' H' Os' Ow s' r o t' io' => q2 v σ' G' H' Os' Ow s' r o (t3.st.trans t') io'

/-! ### comprehensions -/
theorem Sl.ofAt {D : Dn} {G H : Hp} : ∀ {env : List W} {σ : St} {Os : List (List Addr)}, env.length = σ.length → Os.length = σ.length → (∀ (i : Nat) (w : W) (s : Option V) (O : List Addr), env[i]? = some w → σ[i]? = some s → Os[i]? = some O → SR D G H w s O) → Sl D G H env σ Os
  | [], σ, Os, h1, h2, _ => by
    have e1 : σ = [] := List.eq_nil_of_length_eq_zero h1.symm
    subst e1
    exact ⟨rfl, List.eq_nil_of_length_eq_zero h2⟩
  | w :: env, [], _, h1, _, _ => nomatch h1
  | w :: env, s :: σ, [], _, h2, _ => nomatch h2
  | w :: env, s :: σ, O :: Os, h1, h2, h => ⟨s, σ, O, Os, rfl, rfl, h 0 w s O rfl rfl rfl, Sl.ofAt (Nat.succ.inj h1) (Nat.succ.inj h2) fun i w' s' O' a b c => h (i + 1) w' s' O' a b c⟩
theorem killE_at : ∀ {is : List Nat} {env : List W} {i : Nat}, i ∉ is → (killE is env)[i]? = env[i]?
  | [], _, _, _ => rfl
  | j :: is, env, i, h => by
    rw [killE, killE_at (List.not_mem_of_not_mem_cons h), List.getElem?_set_ne (fun e => h (by rw [e]; exact List.mem_cons_self))]
theorem killO_at : ∀ {is : List Nat} {Os : List (List Addr)} {i : Nat}, i ∉ is → (killO is Os)[i]? = Os[i]?
  | [], _, _, _ => rfl
  | j :: is, env, i, h => by
    rw [killO, killO_at (List.not_mem_of_not_mem_cons h), List.getElem?_set_ne (fun e => h (by rw [e]; exact List.mem_cons_self))]
theorem killE_len : ∀ {is : List Nat} {env : List W}, (killE is env).length = env.length
  | [], _ => rfl
  | j :: is, env => by rw [killE, killE_len, List.length_set]
theorem killO_len : ∀ {is : List Nat} {env : List (List Addr)}, (killO is env).length = env.length
  | [], _ => rfl
  | j :: is, env => by rw [killO, killO_len, List.length_set]
theorem killE_in : ∀ {is : List Nat} {env : List W} {i : Nat} {w : W}, i ∈ is → (killE is env)[i]? = some w → w = .dead
  | j :: is, env, i, w, h, e => by
    by_cases hi : i ∈ is
    · exact killE_in (env := env.set j .dead) hi e
    · rw [killE, killE_at hi] at e
      have ej : i = j := (List.mem_cons.mp h).resolve_right hi
      subst ej
      by_cases hl : i < env.length
      · rw [List.getElem?_set_self hl] at e; exact (Option.some.inj e).symm
      · rw [List.getElem?_eq_none (by rw [List.length_set]; omega)] at e; cases e
theorem killO_in : ∀ {is : List Nat} {env : List (List Addr)} {i : Nat} {w : List Addr}, i ∈ is → (killO is env)[i]? = some w → w = []
  | j :: is, env, i, w, h, e => by
    by_cases hi : i ∈ is
    · exact killO_in (env := env.set j []) hi e
    · rw [killO, killO_at hi] at e
      have ej : i = j := (List.mem_cons.mp h).resolve_right hi
      subst ej
      by_cases hl : i < env.length
      · rw [List.getElem?_set_self hl] at e; exact (Option.some.inj e).symm
      · rw [List.getElem?_eq_none (by rw [List.length_set]; omega)] at e; cases e
/-- the killed slots may hold what they will -/
theorem Sl.re {D : Dn} {G H : Hp} {env : List W} {σ σ' : St} {Os : List (List Addr)} {vs : List Nat} (s : Sl D G H env σ Os) (hl : σ'.length = σ.length) (h : ∀ i, i ∉ vs → σ'[i]? = σ[i]?) : Sl D G H (killE vs env) σ' (killO vs Os) := by
  obtain ⟨l1, l2⟩ := s.len
  refine Sl.ofAt (by rw [killE_len, hl]; exact l1) (by rw [killO_len, hl]; exact l2) fun i w x O e1 e2 e3 => ?_
  by_cases hi : i ∈ vs
  · exact .inr ⟨killE_in hi e1, killO_in hi e3⟩
  · rw [killE_at hi] at e1
    rw [killO_at hi] at e3
    rw [h i hi] at e2
    obtain ⟨x', O', g1, g2, g3⟩ := s.at e1
    rw [e2] at g1
    rw [e3] at g2
    cases g1
    cases g2
    exact g3
theorem StOk.re {D : Dn} {G H : Hp} {env : List W} {σ σ' : St} {Os : List (List Addr)} {vs : List Nat} (s : StOk D G H env σ Os) (hl : σ'.length = σ.length) (h : ∀ i, i ∉ vs → σ'[i]? = σ[i]?) : StOk D G H (killE vs env) σ' (killO vs Os) :=
  ⟨s.sl.re hl h, s.sub, fun a ha => s.gn a (killO_sub a ha), killO_nd s.nd⟩
theorem wipe_at {σ : St} : ∀ {vs : List Nat} {i : Nat}, i ∉ vs → (wipe σ vs)[i]? = σ[i]?
  | [], _, _ => rfl
  | j :: vs, i, h => by
    show ((wipe σ vs).set j none)[i]? = _
    rw [List.getElem?_set_ne (fun e => h (by rw [e]; exact List.mem_cons_self)), wipe_at (List.not_mem_of_not_mem_cons h)]
theorem wipe_in {σ : St} : ∀ {vs : List Nat} {i : Nat}, i ∈ vs → i < σ.length → (wipe σ vs)[i]? = some none
  | j :: vs, i, h, hl => by
    show ((wipe σ vs).set j none)[i]? = _
    by_cases e : j = i
    · subst e
      rw [List.getElem?_set_self (by rw [wipe_length]; exact hl)]
    · rw [List.getElem?_set_ne e]
      exact wipe_in ((List.mem_cons.mp h).resolve_left (fun z => e z.symm)) hl
theorem wipe_eq {σ σ' : St} {vs : List Nat} (hl : σ'.length = σ.length) (h : ∀ i, i ∉ vs → σ'[i]? = σ[i]?) : wipe σ' vs = wipe σ vs := by
  refine List.ext_getElem? fun i => ?_
  by_cases hi : i ∈ vs
  · by_cases hb : i < σ.length
    · rw [wipe_in hi hb, wipe_in hi (by rw [hl]; exact hb)]
    · rw [List.getElem?_eq_none (by rw [wipe_length]; omega), List.getElem?_eq_none (by rw [wipe_length]; omega)]
  · rw [wipe_at hi, wipe_at hi, h i hi]

def mLc (f : Tg) (tt : Sm Bool) (te : Sm W) (vs : List Nat) : List W → List W → Sm (List W)
  | [], acc, env => .ok acc (killE vs env)
  | x :: xs, acc, env => match f x (killE vs env) with
    | none => .bad
    | some env1 => match tt env1 with
      | .ok false env2 => mLc f tt te vs xs acc env2
      | .ok true env2 => match te env2 with
        | .ok y env3 => if y.frz = true ∧ acc.length < sizeLine then mLc f tt te vs xs (acc ++ [y]) env3 else .bad
        | _ => .bad
      | _ => .bad
def mComp (p : Bool) (f : Tg) (tt : Sm Bool) (te : Sm W) (vs : List Nat) (mi : Sm (List W)) : Sm W := Sm.bind mi fun ws env => match mLc f tt te vs ws [] env with
  | .ok ys env' => .ok (.lst true ys) (cond p env env')
  | _ => .bad
abbrev W0 : WX := fun _ _ _ _ => False
abbrev ioB (vs : List Nat) : Nat → Bool := fun i => !vs.contains i
theorem step_updNew {G H G' H' : Hp} {O O' : List Addr} {d : Addr} {o : HO} (t : Step G H O G' H' O') (n : H d = none) : Step G H O G' (upd H' d o) O' :=
  ⟨t.mono, fun a x h hn => by rw [upd_ne (ne_of_none h n)]; exact t.keep a x h hn, t.gnew, t.new⟩
theorem StOk.updD {D : Dn} {G H : Hp} {env : List W} {σ : St} {Os : List (List Addr)} {d : Addr} {o : HO} (s : StOk D G H env σ Os) (g : G d = none) (n : d ∉ Os.flatten) : StOk D G (upd H d o) env σ Os :=
  ⟨s.sl.mono (Sub.refl _) fun a ha x h => by rw [upd_ne (fun e => n (by rw [← e]; exact ha))]; exact h, fun a x h => by rw [upd_ne (ne_of_none h g)]; exact s.sub a x h, s.gn, s.nd⟩
/-- what the walk of a comprehension keeps -/
structure LcI (D : Dn) (p : Bool) (vs : List Nat) (G1 H1 : Hp) (Os1 : List (List Addr)) (d : Addr) (σ : St) (acc : List W) (env : List W) (H : Hp) (G : Hp) (Os : List (List Addr)) (σ2 : St) : Prop where
  st : StOk D G H env σ2 Os
  len : σ2.length = σ.length
  out : ∀ i, i ∉ vs → σ2[i]? = σ[i]?
  dg : G d = none
  dn : d ∉ Os.flatten
  dl : ∃ va, H d = some (.lst va) ∧ RFs D G acc va
  step : Step G1 H1 (cond p [] Os1.flatten) G H (cond p [] Os.flatten)
theorem LcI.next {D : Dn} {p q : Bool} {vs : List Nat} {G1 H1 : Hp} {Os1 : List (List Addr)} {d : Addr} {σ : St} {acc env : List W} {H G : Hp} {Os : List (List Addr)} {σ2 : St} {env' : List W} {G' H' : Hp} {Os' : List (List Addr)}
    (I : LcI D p vs G1 H1 Os1 d σ acc env H G Os σ2) (hpq : p = true → q = true) (s : StOk D G' H' env' σ2 Os') (t : Stp q env G H Os env' G' H' Os' []) : LcI D p vs G1 H1 Os1 d σ acc env' H' G' Os' σ2 := by
  obtain ⟨va, hd, ra⟩ := I.dl
  have tg := t.st
  refine ⟨s, I.len, I.out, tg.gnew d _ hd I.dn (fun _ z => nomatch z) I.dg, fun z => ?_, ⟨va, tg.keep d _ hd I.dn, RFs.mono tg.mono _ _ ra⟩, ?_⟩
  · rcases tg.new d z with y | y
    · exact I.dn y
    · rw [hd] at y; cases y
  · cases p with
    | true =>
      have hq := hpq rfl
      subst hq
      exact I.step.trans t.2.2
    | false => exact I.step.trans tg
theorem tx_lc {D : Dn} {Wx : WX} {f : Tg} {tt : Sm Bool} {te : Sm W} {mi : Sm (List W)} {vs : List Nat} {p pt pe kk : Bool} {σ : St} {H : Hp} {Q : VK}
    (q : TX D Wx (p && (pt && pe)) true (mComp (pt && pe) f tt te vs mi) σ H Q) : tLc (TIx D Wx p mi) (TGx D (ioB vs) f) (TT' D W0 pt tt) (TX D W0 pe kk te) vs σ H Q := by
  obtain ⟨env, G, Os, s, q⟩ := q
  refine ⟨env, G, Os, s, ?_⟩
  unfold mComp Sm.bind at q
  cases e : mi env with
  | bad => rw [e] at q; exact q
  | ex c env1 =>
    rw [e] at q
    exact fun G' H' Os' s' t => q G' H' Os' s' (t.and _)
  | ok ws env1 =>
    rw [e] at q
    intro J G1 H1 Os1 s1 t1 wk d hd
    generalize hp' : (pt && pe) = pb at q
    have gd1 : G1 d = none := sub_none s1.sub hd
    have dn1 : d ∉ Os1.flatten := fun z => s1.sl.there d z hd
    -- what is to be reached
    let Fin : List W → Out (List W) → Prop := fun _ o => ∃ ys env', o = .ok ys env'
    obtain ⟨ys, envF, eF⟩ : ∃ ys env', mLc f tt te vs ws [] env1 = .ok ys env' := by
      cases eo : mLc f tt te vs ws [] env1 with
      | ok ys env' => exact ⟨ys, env', rfl⟩
      | ex c env' => simp only [eo] at q
      | bad => simp only [eo] at q
    simp only [eF] at q
    refine ⟨fun i m H' => m = ws.length - i ∧ i ≤ ws.length ∧ ∃ env' G' Os' σ' acc, LcI D pb vs G1 H1 Os1 d σ acc env' H' G' Os' σ' ∧ Sub G1 G' ∧ mLc f tt te vs (ws.drop i) acc env' = .ok ys envF, ⟨ws.length, rfl, Nat.zero_le _, env1, G1, Os1, σ, [], ?_, Sub.refl _, eF⟩, ?_⟩
    · refine ⟨s1.updD gd1 dn1, rfl, fun _ _ => rfl, gd1, dn1, ⟨[], upd_same, rfl⟩, step_updNew (Step.less (Step.refl _ _ _) ?_) hd⟩
      cases pb <;> exact fun x hx => hx
    rintro i m H2 ⟨rfl, hi, env2, G2, Os2, σ2, acc, I, sub2, e2⟩
    obtain ⟨w1, w2⟩ := wk i G2 H2 sub2 I.st.sub
    by_cases hl : i < ws.length
    · have ei : ws[i]? = some ws[i] := List.getElem?_eq_getElem hl
      obtain ⟨go, yl⟩ := w1 _ ei
      rw [List.drop_eq_getElem_cons hl] at e2
      refine .inr ⟨go, fun H' => ∃ env' G' Os' σ' acc, LcI D pb vs G1 H1 Os1 d σ acc env' H' G' Os' σ' ∧ Sub G1 G' ∧ mLc f tt te vs (ws.drop (i + 1)) acc env' = .ok ys envF, fun H' h => ⟨ws.length - (i + 1), by omega, rfl, hl, h⟩, fun v H3 y => ?_⟩
      obtain ⟨G3, t3, sub3, r3⟩ := yl v H3 y
      unfold mLc at e2
      cases ef : f ws[i] (killE vs env2) with
      | none => simp only [ef] at e2; cases e2
      | some env3 =>
        simp only [ef] at e2
        -- the item comes
        have I3 : LcI D pb vs G1 H1 Os1 d σ acc env2 H3 G3 Os2 σ2 := I.next (q := true) (fun _ => rfl) (I.st.step t3 sub3) ⟨rfl, rfl, t3⟩
        have s3 : StOk D G3 H3 (killE vs env2) (wipe σ vs) (killO vs Os2) := I3.st.re (by rw [wipe_length]; exact I.len.symm) fun j hj => by rw [wipe_at hj, I.out j hj]
        refine ⟨killE vs env2, G3, killO vs Os2, ws[i], env3, s3, r3, ef, fun σ4 Os4 s4 hsub io4 len4 => ?_⟩
        rw [wipe_length] at len4
        have out4 : ∀ j, j ∉ vs → σ4[j]? = σ[j]? := fun j hj => by
          have hio : ioB vs j = true := by
            show (!vs.contains j) = true
            rw [Bool.not_eq_true', List.contains_eq_mem, decide_eq_false_iff_not]
            exact hj
          rw [io4 j hio, wipe_at hj]
        have hsub2 : ∀ a ∈ Os4.flatten, a ∈ Os2.flatten := fun a ha => killO_sub a (hsub a ha)
        obtain ⟨va, hda, rva⟩ := I3.dl
        have I4 : LcI D pb vs G1 H1 Os1 d σ acc env3 H3 G3 Os4 σ4 := ⟨s4, len4, out4, I3.dg, fun z => I3.dn (hsub2 d z), ⟨va, hda, rva⟩, I3.step.less (by cases pb <;> first | exact hsub2 | exact fun x hx => hx)⟩
        refine ⟨wipe_eq len4 out4, env3, G3, Os4, s4, ?_⟩
        have hpt : pb = true → pt = true := fun z => by rw [← hp'] at z; exact (Bool.and_eq_true_iff.mp z).1
        have hpe : pb = true → pe = true := fun z => by rw [← hp'] at z; exact (Bool.and_eq_true_iff.mp z).2
        cases et : tt env3 with
        | bad => simp only [et] at e2; cases e2
        | ex c env4 => simp only [et] at e2; cases e2
        | ok b env4 =>
          intro G5 H5 Os5 s5 t5
          have I5 := I4.next hpt s5 t5
          have sub5 : Sub G1 G5 := (sub2.trans t3.mono).trans t5.gen.mono
          cases b with
          | false =>
            rw [if_neg Bool.false_ne_true]
            simp only [et] at e2
            exact ⟨env4, G5, Os5, σ4, acc, I5, sub5, e2⟩
          | true =>
            rw [if_pos rfl]
            simp only [et] at e2
            refine ⟨env4, G5, Os5, s5, ?_⟩
            cases ee : te env4 with
            | bad => simp only [ee] at e2; cases e2
            | ex c env6 => simp only [ee] at e2; cases e2
            | ok y env6 =>
              simp only [ee] at e2
              intro v6 G6 H6 Os6 Ow s6 r6 o6 t6
              by_cases hy : y.frz = true ∧ acc.length < sizeLine
              · rw [if_pos hy] at e2
                obtain ⟨rfl, rf⟩ := r6.toF hy.1
                have t6' : Stp pe env4 G5 H5 Os5 env6 G6 H6 Os6 [] := t6.less kO_less
                have I6 := I5.next hpe s6 t6'
                obtain ⟨va6, hd6, rva6⟩ := I6.dl
                refine ⟨va6, hd6, by rw [← rva6.len]; exact hy.2, env6, G6, Os6, σ4, acc ++ [y], ?_, sub5.trans t6'.gen.mono, e2⟩
                refine ⟨s6.updD I6.dg I6.dn, len4, out4, I6.dg, I6.dn, ⟨va6 ++ [v6], upd_same, rva6.append ⟨v6, [], rfl, rf, rfl⟩⟩, step_updNew I6.step hd⟩
              · rw [if_neg hy] at e2; cases e2
    · have e3 : i = ws.length := by omega
      subst e3
      rw [List.drop_length] at e2
      refine .inl ⟨w2 (Nat.le_refl _), ?_⟩
      cases e2
      obtain ⟨va, hda, rva⟩ := I.dl
      have sK : StOk D G2 H2 (killE vs env2) σ (killO vs Os2) := I.st.re I.len.symm fun j hj => (I.out j hj).symm
      cases pb with
      | true =>
        have st : Step G1 H1 [] G2 H2 [d] := ⟨I.step.mono, I.step.keep, I.step.gnew, fun a ha => .inr (by rw [List.mem_singleton.mp ha]; exact hd)⟩
        have sF : StOk D G2 H2 env1 σ Os1 := s1.step st I.st.sub
        refine q (.ref d) G2 H2 Os1 [d] sF ⟨d, va, rfl, rfl, hda, rva⟩ ⟨s1.apart st (by simp), fun a ha => by rw [List.mem_singleton.mp ha]; exact I.dg⟩ ?_
        rw [Bool.and_true]
        exact t1.ofP (σ := σ) st
      | false =>
        have dk : d ∉ (killO vs Os2).flatten := fun z => I.dn (killO_sub d z)
        refine q (.ref d) G2 H2 (killO vs Os2) [d] sK ⟨d, va, rfl, rfl, hda, rva⟩ ⟨List.nodup_append.mpr ⟨sK.nd, by simp, fun a ha b hb e => by rw [List.mem_singleton.mp hb] at e; subst e; exact dk ha⟩, fun a ha => by rw [List.mem_singleton.mp ha]; exact I.dg⟩ ?_
        rw [Bool.and_false]
        have st : Step G1 H1 Os1.flatten G2 H2 ((killO vs Os2).flatten ++ [d]) := ⟨I.step.mono, I.step.keep, I.step.gnew, fun a ha => by
          rcases List.mem_append.mp ha with z | z
          · exact I.step.new a (killO_sub a z)
          · exact .inr (by rw [List.mem_singleton.mp z]; exact hd)⟩
        exact t1.st.trans st
end Ev

namespace Ev
open PySem PySem.Spec L2

/-! ### comprehensions as expressions, as values of a name -/
abbrev Zt.blk (Z : Zt) (s : Shared) (H : Hp) (scope : Scope) (C : Addr) (cl : List (Str × Addr)) (fp : List Addr) (vs : List Nat) : Zt := ⟨Z.X.blk s H scope (compEnvC scope cl C Z.X.env) fp, Z.CA, W0, ioB vs⟩
abbrev MTs (Z : Zt) (ifs : List Expr) (m : Sm Bool) (p : Bool) : Prop := PTs Z.X ifs (TT' Z.D Z.W p m)
theorem mts_nil {Z : Zt} : MTs Z [] (Sm.ret true) true := ⟨fun pins s σ H Q I q => by
  obtain ⟨env, G, Os, st, q⟩ := q
  exact pts_nil.run pins s σ H Q I (q G H Os st (Stp.id true))⟩
theorem mts_one {Z : Zt} {c : Expr} {m : Sm Bool} {p : Bool} (h : MT Z c m p) : MTs Z [c] m p := pts_one h
theorem me_lc {Z : Zt} {elt tg iter : Expr} {ifs : List Expr} {scope : Scope} {own : List (Str × Nat)} {pos : Pos} {f : Tg} {mt : Sm Bool} {me : Sm W} {mi : Sm (List W)} {p pt pe k : Bool} (hc : Z.X.calm = true) (hN : Z.X.N.Nodup) (hi : MI Z tg iter mi p) (ok : BlkOk Z.X.N Z.X.env.scope scope own)
    (hg : ∀ (s : Shared) (H : Hp) (C : Addr) (cl : List (Str × Addr)) (fp : List Addr), MG (Z.blk s H scope C cl fp (own.map (·.2))) tg f) (ht : ∀ (s : Shared) (H : Hp) (C : Addr) (cl : List (Str × Addr)) (fp : List Addr), MTs (Z.blk s H scope C cl fp (own.map (·.2))) ifs mt pt)
    (he : ∀ (s : Shared) (H : Hp) (C : Addr) (cl : List (Str × Addr)) (fp : List Addr), ME (Z.blk s H scope C cl fp (own.map (·.2))) elt me pe k) (hs : ∀ x, foldedSetIterable iter Z.X.env x = pure x := by intro _; rfl) :
    ME Z (.ListComp elt [⟨tg, iter, ifs, 0⟩] scope pos) (mComp (pt && pe) f mt me (own.map (·.2)) mi) (p && (pt && pe)) true := pe_imp (pe_lc hc hN hi ok hg ht he hs) fun σ H Q q => tx_lc q
theorem ms_setLc {Z : Zt} {i : Nat} {y : Str} {py : Pos} {elt tg iter : Expr} {ifs : List Expr} {scope : Scope} {own : List (Str × Nat)} {pos spos : Pos} {f : Tg} {mt : Sm Bool} {me : Sm W} {mi : Sm (List W)} {p pt pe k : Bool} (b : Bool) (hc : Z.X.calm = true) (hN : Z.X.N.Nodup) (hi : MI Z tg iter mi p) (ok : BlkOk Z.X.N Z.X.env.scope scope own)
    (hg : ∀ (s : Shared) (H : Hp) (C : Addr) (cl : List (Str × Addr)) (fp : List Addr), MG (Z.blk s H scope C cl fp (own.map (·.2))) tg f) (ht : ∀ (s : Shared) (H : Hp) (C : Addr) (cl : List (Str × Addr)) (fp : List Addr), MTs (Z.blk s H scope C cl fp (own.map (·.2))) ifs mt pt)
    (he : ∀ (s : Shared) (H : Hp) (C : Addr) (cl : List (Str × Addr)) (fp : List Addr), ME (Z.blk s H scope C cl fp (own.map (·.2))) elt me pe k)
    (hy : Z.X.N[i]? = some y := by rfl) (hyl : Z.X.env.scope.names.lookup y = some .local := by rfl) (hio : Z.io i = false := by rfl)
    (hsw : swapsWith (.ListComp elt [⟨tg, iter, ifs, 0⟩] scope pos) (some (.Name y py)) spos.line Z.X.env = pure true := by exact sw_true rfl rfl rfl (by decide +kernel)) (hs : ∀ x, foldedSetIterable iter Z.X.env x = pure x := by intro _; rfl) :
    MS Z (.Assign [.Name y py] (.ListComp elt [⟨tg, iter, ifs, 0⟩] scope pos) spos) (sSet i true (cond b (mComp (pt && pe) f mt me (own.map (·.2)) mi) (mFz (mComp (pt && pe) f mt me (own.map (·.2)) mi)))) := by
  have core := ps_setLc (X := Z.X) (i := i) (py := py) (spos := spos) (pos := pos) (g := TGx Z.D (ioB (own.map (·.2))) f) (tt := TT' Z.D W0 pt mt) (te := TX Z.D W0 pe k me) hc hN hy hyl hsw hi ok hg ht he hs
  refine ⟨fun pins sh σ H D I q => ?_⟩
  have hlen := I.len
  refine core.run pins sh σ H D I ?_
  have fin : ∀ {m : Sm W} {p : Bool}, TSx Z.D Z.W Z.io (sSet i true m) D σ H → TX Z.D Z.W p true m σ H fun v H' => D.nx (σ.set i (some v)) H' := by
    intro m p q
    obtain ⟨env, G, Os, s, q⟩ := q
    refine ⟨env, G, Os, s, ?_⟩
    unfold sSet Sm.bind at q
    cases e : m env with
    | bad => rw [e] at q; exact q
    | ex c env1 =>
      rw [e] at q
      exact fun G' H' Os' s' t => q σ G' H' Os' s' t.st (IoS.refl _)
    | ok w env1 =>
      rw [e] at q
      intro v G' H' Os' Ow s' r o t
      simp only [Bool.true_or, if_true] at q
      obtain ⟨s2, inn⟩ := s'.put i (by rw [hlen]; exact (List.getElem?_eq_some_iff.mp hy).1) r o
      exact q (σ.set i (some v)) G' H' (Os'.set i Ow) s2 (t.gen.less inn) (IoS.set hio)
  cases b with
  | true => exact tx_lc (Q := fun v H' => D.nx (σ.set i (some v)) H') (fin (p := p && (pt && pe)) q)
  | false =>
    have z := fin (p := p && (pt && pe)) q
    -- frozen: by me_fz's reading
    refine tx_lc (Q := fun v H' => D.nx (σ.set i (some v)) H') ?_
    exact tx_fz z
end Ev

namespace Ev
open PySem PySem.Spec L2

/-! ### an owned list at a slot, changed -/
theorem Sl.atOwn {D : Dn} {G H : Hp} {env : List W} {σ : St} {Os : List (List Addr)} {i : Nat} {xs : List W} (s : Sl D G H env σ Os) (e : env[i]? = some (.lst true xs)) : ∃ a vs, σ[i]? = some (some (.ref a)) ∧ Os[i]? = some [a] ∧ H a = some (.lst vs) ∧ RFs D G xs vs := by
  obtain ⟨sv, O, h1, h2, h3⟩ := s.at e
  rcases h3 with ⟨v, rfl, a, vs, rfl, rfl, h4, h5⟩ | ⟨z, _⟩
  · exact ⟨a, vs, h1, h2, h4, h5⟩
  · cases z
theorem once {i : Nat} {a : Addr} : ∀ {Os : List (List Addr)}, Os.flatten.Nodup → Os[i]? = some [a] → a ∉ (Os.set i []).flatten := fun {Os} nd e z => by
  have pm := flat_set (O' := []) e
  rw [List.append_nil] at pm
  exact (List.nodup_append.mp (pm.nodup_iff.mpr nd)).2.2 a z a List.mem_cons_self rfl
theorem StOk.mut {D : Dn} {G H : Hp} {env : List W} {σ : St} {Os : List (List Addr)} {i : Nat} {a : Addr} {vs vs' : List V} {xs' : List W} (s : StOk D G H env σ Os) (h1 : σ[i]? = some (some (.ref a))) (h2 : Os[i]? = some [a]) (h3 : H a = some (.lst vs)) (r : RFs D G xs' vs') :
    StOk D G (upd H a (.lst vs')) (env.set i (.lst true xs')) σ Os ∧ Step G H Os.flatten G (upd H a (.lst vs')) Os.flatten := by
  have ha : a ∈ Os.flatten := List.mem_flatten.mpr ⟨_, List.mem_of_getElem? h2, List.mem_cons_self⟩
  have ga : G a = none := s.gn a ha
  have no := once s.nd h2
  constructor
  · refine ⟨?_, fun b x hb => ?_, s.gn, s.nd⟩
    · have s0 : Sl D G (upd H a (.lst vs')) (env.set i .dead) σ (Os.set i []) := (s.sl.kill1 i).mono (Sub.refl _) fun b hb x hx => by
        rw [upd_ne (fun e => no (by rw [← e]; exact hb))]; exact hx
      have s1 := Sl.set (D := D) (G := G) (H := upd H a (.lst vs')) (w := .lst true xs') (s := some (.ref a)) (O := [a]) (.inl ⟨.ref a, rfl, a, vs', rfl, rfl, upd_same, r⟩) i s0
      rw [set_self h1] at s1
      rw [List.set_set, List.set_set, set_self h2] at s1
      exact s1
    · rw [upd_ne (ne_of_none hb ga)]; exact s.sub b x hb
  · exact ⟨Sub.refl _, fun b x hb hn => by rw [upd_ne (fun e => hn (by rw [e]; exact ha))]; exact hb, fun _ _ _ _ _ h => h, fun _ h => .inl h⟩
/-- a method that changes a list's items: its answer, the items behind it -/
abbrev MutF := List W → List W → Option (W × List W)
def MutS (Z : Zt) (id : String) (F : MutF) : Prop := ∃ r, MtR Z.X id r ∧ ∀ (G H : Hp) (a : Addr) (xs ws : List W) (vs us : List V) (w : W) (xs' : List W) (Q : VK), Sub G H → H a = some (.lst vs) → RFs Z.D G xs vs → RFs Z.D G ws us → F xs ws = some (w, xs') →
  (∀ v vs', RF Z.D G w v → RFs Z.D G xs' vs' → Q v (upd H a (.lst vs'))) → r (.ref a) us H Q
def mMut (i : Nat) (F : MutF) (m : Sm (List W)) : Sm W := fun env => match env[i]? with
  | some (.lst true _) => match m env with
    | .ok ws env1 => match env1[i]? with
      | some (.lst true xs) => match F xs ws with
        | some (w, xs') => .ok w (env1.set i (.lst true xs'))
        | none => .bad
      | _ => .bad
    | .ex c env1 => .ex c env1
    | .bad => .bad
  | _ => .bad
theorem tx_mut {Z : Zt} {id : String} {i : Nat} {F : MutF} {m : Sm (List W)} {p : Bool} {σ : St} {H : Hp} {Q : VK} {r : V → List V → Hp → VK → Prop}
    (hr : ∀ (G H : Hp) (a : Addr) (xs ws : List W) (vs us : List V) (w : W) (xs' : List W) (Q : VK), Sub G H → H a = some (.lst vs) → RFs Z.D G xs vs → RFs Z.D G ws us → F xs ws = some (w, xs') → (∀ v vs', RF Z.D G w v → RFs Z.D G xs' vs' → Q v (upd H a (.lst vs'))) → r (.ref a) us H Q)
    (q : TX Z.D Z.W false true (mMut i F m) σ H Q) : tVar i σ H fun x H1 => tyV Z.X.K "list" x H1 ∧ TA' Z.D Z.W p m σ H1 fun us H2 => r x us H2 Q := by
  obtain ⟨env, G, Os, s, q⟩ := q
  unfold mMut at q
  cases e : env[i]? with
  | none => rw [e] at q; exact q.elim
  | some w0 =>
    have key : ∃ xs0, w0 = .lst true xs0 := by
      rw [e] at q
      cases w0 <;> first
        | exact q.elim
        | (rename_i b _; cases b <;> first | exact q.elim | exact ⟨_, rfl⟩)
    obtain ⟨xs0, rfl⟩ := key
    rw [e] at q
    obtain ⟨a, vs0, h1, h2, h3, h4⟩ := s.sl.atOwn e
    refine ⟨.ref a, h1, .inl ⟨rfl, _, SqL.of h3⟩, env, G, Os, s, ?_⟩
    cases em : m env with
    | bad => simp only [em] at q
    | ex c env1 =>
      simp only [em] at q
      exact fun G' H' Os' s' t => q G' H' Os' s' t.gen
    | ok ws env1 =>
      simp only [em] at q
      intro us G1 H1 Os1 s1 r1 t1
      cases e1 : env1[i]? with
      | none => simp only [e1] at q
      | some w1 =>
        have key1 : ∃ xs1, w1 = .lst true xs1 := by
          cases w1 <;> first
            | (exfalso; simp only [e1] at q; done)
            | (rename_i b _; cases b <;> first | (exfalso; simp only [e1] at q; done) | exact ⟨_, rfl⟩)
        obtain ⟨xs1, rfl⟩ := key1
        simp only [e1] at q
        obtain ⟨a', vs1, g1, g2, g3, g4⟩ := s1.sl.atOwn e1
        rw [h1] at g1
        cases g1
        cases eF : F xs1 ws with
        | none => simp only [eF] at q
        | some ww =>
          obtain ⟨w, xs'⟩ := ww
          simp only [eF] at q
          refine hr G1 H1 a xs1 ws vs1 us w xs' Q s1.sub g3 g4 r1 eF fun v vs' rv rvs => ?_
          obtain ⟨s2, t2⟩ := s1.mut h1 g2 g3 rvs
          refine q v G1 _ Os1 [] s2 (RO.ofF rv) (OwnK.nil s2) ?_
          show Step G H Os.flatten G1 _ (Os1.flatten ++ [])
          rw [List.append_nil]
          exact t1.st.trans t2
section
variable {Z : Zt} {o e : Expr} {es : List Expr} {i : Nat} {F : MutF} {m : Sm (List W)} {p : Bool} {name : Str} {id : String} {apos cpos : Pos}
theorem me_mut (slot : Slot "list" name id) (hty : typeOf (.builtin id) = pure (.type "method_descriptor")) (hm : MutS Z id F) (ho : PE Z.X o (tVar i)) (ha : MA Z (e :: es) m p)
    (hbase : attributeBase o name Z.X.env (eval o Z.X.env) = eval o Z.X.env := by rfl)
    (hfew : ((backTo cpos (starEach (e :: es) Z.X.env)).all (fun x => !x.1) && (backToKw cpos (keywordEach [] Z.X.env)).all (fun x => x.1.isSome)
      && decide ((e :: es).length + ([] : List Keyword).length + (if ([] : List Keyword).isEmpty then 0 else 1) < 30)) = true := by rfl)
    (hline : (apos.endLine == cpos.line) = true := by rfl) (hs : starEach (e :: es) Z.X.env = (false, eval e Z.X.env) :: starEach es Z.X.env := by rfl) (hplain : (backTo cpos (starEach es Z.X.env)).any (·.1) = false := by rfl) :
    ME Z (.Call (.Attribute o name apos) (e :: es) [] cpos) (mMut i F m) false true := by
  obtain ⟨r, h1, h2⟩ := hm
  exact pe_imp (pe_bm PySem.F.plainAttrs_list slot hty h1 ho ha hbase hfew hline hs hplain) fun σ H Q q => tx_mut (id := id) h2 q
theorem me_mut0 (slot : Slot "list" name id) (hty : typeOf (.builtin id) = pure (.type "method_descriptor")) (hm : MutS Z id F) (ho : PE Z.X o (tVar i))
    (hbase : attributeBase o name Z.X.env (eval o Z.X.env) = eval o Z.X.env := by rfl) (hline : (apos.endLine == cpos.line) = true := by rfl) :
    ME Z (.Call (.Attribute o name apos) [] [] cpos) (mMut i F mNil) false true := by
  obtain ⟨r, h1, h2⟩ := hm
  refine pe_imp (pe_bm0 PySem.F.plainAttrs_list slot hty h1 ho hbase hline) fun σ H Q q => ?_
  obtain ⟨v, hv, hty', z⟩ := tx_mut (id := id) (p := true) h2 q
  obtain ⟨env, G, Os, s, z⟩ := z
  exact ⟨v, hv, hty', z [] G H Os s rfl (Stp.id true)⟩
def fAppend : MutF := fun xs ws => match ws with
  | [w] => if xs.length < sizeLine then some (.non, xs ++ [w]) else none
  | _ => none
def fExtend : MutF := fun xs ws => match ws with
  | [.lst false ys] => if xs.length + ys.length ≤ sizeLine then some (.non, xs ++ ys) else none
  | _ => none
def fPop : MutF := fun xs ws => match ws with
  | [] => (xs[xs.length - 1]?).map fun w => (w, xs.dropLast)
  | _ => none
def fPopAt : MutF := fun xs ws => match ws with
  | [.int i] => if -(2 ^ 63) ≤ i ∧ i < 2 ^ 63 then (seqIndex? i xs.length).bind fun k => (xs[k]?).map fun w => (w, xs.eraseIdx k) else none
  | _ => none
def fInsert : MutF := fun xs ws => match ws with
  | [.int i, y] => if xs.length < sizeLine ∧ 0 ≤ i ∧ i < 2 ^ 63 then some (.non, xs.take i.toNat ++ [y] ++ xs.drop i.toNat) else none
  | _ => none
theorem RFs.dropLast {D : Dn} {G : Hp} {ws : List W} {vs : List V} (h : RFs D G ws vs) : RFs D G ws.dropLast vs.dropLast := by
  rw [List.dropLast_eq_take, List.dropLast_eq_take, h.len]
  exact h.take _
theorem RFs.erase {D : Dn} {G : Hp} : ∀ {ws : List W} {vs : List V} (k : Nat), RFs D G ws vs → RFs D G (ws.eraseIdx k) (vs.eraseIdx k)
  | [], _, k, h => by rw [show _ = [] from h]; exact rfl
  | _ :: _, _, 0, h => by
    obtain ⟨v, r, rfl, h1, h2⟩ := h
    exact h2
  | _ :: _, _, k + 1, h => by
    obtain ⟨v, r, rfl, h1, h2⟩ := h
    exact ⟨v, _, rfl, h1, RFs.erase k h2⟩
theorem mut_append : MutS Z "list.append" fAppend := ⟨_, mt_append, fun G H a xs ws vs us w xs' Q s h r1 r2 e q => by
  unfold fAppend at e
  split at e
  · rename_i y
    by_cases hl : xs.length < sizeLine
    · rw [if_pos hl] at e
      cases e
      obtain ⟨u, _, rfl, h1, h2⟩ := r2
      cases h2
      exact ⟨a, vs, u, rfl, rfl, h, by rw [← r1.len]; exact hl, q _ _ rfl (r1.append ⟨u, [], rfl, h1, rfl⟩)⟩
    · rw [if_neg hl] at e; cases e
  · cases e⟩
theorem mut_extend : MutS Z "list.extend" fExtend := ⟨_, mt_extend, fun G H a xs ws vs us w xs' Q s h r1 r2 e q => by
  unfold fExtend at e
  split at e
  · rename_i ys
    by_cases hl : xs.length + ys.length ≤ sizeLine
    · rw [if_pos hl] at e
      cases e
      obtain ⟨u, _, rfl, ⟨b, zs, rfl, h1, h3⟩, h2⟩ := r2
      cases h2
      exact ⟨a, b, vs, zs, rfl, rfl, h, s _ _ h1, by rw [← r1.len, ← h3.len]; exact hl, q _ _ rfl (r1.append h3)⟩
    · rw [if_neg hl] at e; cases e
  · cases e⟩
theorem mut_pop : MutS Z "list.pop" fPop := ⟨_, mt_pop, fun G H a xs ws vs us w xs' Q s h r1 r2 e q => by
  unfold fPop at e
  split at e
  · cases e1 : xs[xs.length - 1]? with
    | none => rw [e1] at e; cases e
    | some y =>
      rw [e1] at e
      cases e
      cases r2
      obtain ⟨v, h1, h2⟩ := r1.get e1
      rw [r1.len] at h1
      exact ⟨a, vs, v, rfl, rfl, h, h1, q _ _ h2 r1.dropLast⟩
  · cases e⟩
theorem mut_popAt : MutS Z "list.pop" fPopAt := ⟨_, mt_popAt, fun G H a xs ws vs us w xs' Q s h r1 r2 e q => by
  unfold fPopAt at e
  split at e
  · rename_i j
    by_cases hl : -(2 ^ 63) ≤ j ∧ j < 2 ^ 63
    · rw [if_pos hl] at e
      cases e0 : seqIndex? j xs.length with
      | none => rw [e0] at e; cases e
      | some k =>
        rw [e0, Option.bind_some] at e
        cases e1 : xs[k]? with
        | none => rw [e1] at e; cases e
        | some y =>
          rw [e1] at e
          cases e
          rw [r2.int1]
          obtain ⟨v, h1, h2⟩ := r1.get e1
          exact ⟨a, vs, j, k, v, rfl, rfl, h, hl.1, hl.2, by rw [← r1.len]; exact e0, h1, q _ _ h2 (r1.erase k)⟩
    · rw [if_neg hl] at e; cases e
  · cases e⟩
theorem mut_insert : MutS Z "list.insert" fInsert := ⟨_, mt_insert, fun G H a xs ws vs us w xs' Q s h r1 r2 e q => by
  unfold fInsert at e
  split at e
  · rename_i j y
    by_cases hl : xs.length < sizeLine ∧ 0 ≤ j ∧ j < 2 ^ 63
    · rw [if_pos hl] at e
      cases e
      obtain ⟨u, _, rfl, h1, u2, _, rfl, h2, h3⟩ := r2
      cases h3
      cases h1
      exact ⟨a, vs, j, u2, rfl, rfl, h, by rw [← r1.len]; exact hl.1, hl.2.1, hl.2.2, q .non (vs.take j.toNat ++ [u2] ++ vs.drop j.toNat) rfl (((r1.take _).append (show RFs Z.D G [y] [u2] from ⟨u2, [], rfl, h2, rfl⟩)).append (r1.drop _))⟩
    · rw [if_neg hl] at e; cases e
  · cases e⟩
theorem me_append (ho : PE Z.X o (tVar i)) (ha : MA Z [e] m p) (hbase : attributeBase o "append" Z.X.env (eval o Z.X.env) = eval o Z.X.env := by rfl)
    (hfew : ((backTo cpos (starEach [e] Z.X.env)).all (fun x => !x.1) && (backToKw cpos (keywordEach [] Z.X.env)).all (fun x => x.1.isSome)
      && decide ([e].length + ([] : List Keyword).length + (if ([] : List Keyword).isEmpty then 0 else 1) < 30)) = true := by rfl)
    (hline : (apos.endLine == cpos.line) = true := by rfl) (hs : starEach [e] Z.X.env = (false, eval e Z.X.env) :: starEach [] Z.X.env := by rfl) :
    ME Z (.Call (.Attribute o "append" apos) [e] [] cpos) (mMut i fAppend m) false true := me_mut PySem.F.slot_list_append PySem.F.type_list_append mut_append ho ha hbase hfew hline hs rfl
theorem me_extend (ho : PE Z.X o (tVar i)) (ha : MA Z [e] m p) (hbase : attributeBase o "extend" Z.X.env (eval o Z.X.env) = eval o Z.X.env := by rfl)
    (hfew : ((backTo cpos (starEach [e] Z.X.env)).all (fun x => !x.1) && (backToKw cpos (keywordEach [] Z.X.env)).all (fun x => x.1.isSome)
      && decide ([e].length + ([] : List Keyword).length + (if ([] : List Keyword).isEmpty then 0 else 1) < 30)) = true := by rfl)
    (hline : (apos.endLine == cpos.line) = true := by rfl) (hs : starEach [e] Z.X.env = (false, eval e Z.X.env) :: starEach [] Z.X.env := by rfl) :
    ME Z (.Call (.Attribute o "extend" apos) [e] [] cpos) (mMut i fExtend m) false true := me_mut PySem.F.slot_list_extend PySem.F.type_list_extend mut_extend ho ha hbase hfew hline hs rfl
theorem me_popAt (ho : PE Z.X o (tVar i)) (ha : MA Z [e] m p) (hbase : attributeBase o "pop" Z.X.env (eval o Z.X.env) = eval o Z.X.env := by rfl)
    (hfew : ((backTo cpos (starEach [e] Z.X.env)).all (fun x => !x.1) && (backToKw cpos (keywordEach [] Z.X.env)).all (fun x => x.1.isSome)
      && decide ([e].length + ([] : List Keyword).length + (if ([] : List Keyword).isEmpty then 0 else 1) < 30)) = true := by rfl)
    (hline : (apos.endLine == cpos.line) = true := by rfl) (hs : starEach [e] Z.X.env = (false, eval e Z.X.env) :: starEach [] Z.X.env := by rfl) :
    ME Z (.Call (.Attribute o "pop" apos) [e] [] cpos) (mMut i fPopAt m) false true := me_mut PySem.F.slot_list_pop PySem.F.type_list_pop mut_popAt ho ha hbase hfew hline hs rfl
theorem me_pop (ho : PE Z.X o (tVar i)) (hbase : attributeBase o "pop" Z.X.env (eval o Z.X.env) = eval o Z.X.env := by rfl) (hline : (apos.endLine == cpos.line) = true := by rfl) :
    ME Z (.Call (.Attribute o "pop" apos) [] [] cpos) (mMut i fPop mNil) false true := me_mut0 PySem.F.slot_list_pop PySem.F.type_list_pop mut_pop ho hbase hline
theorem me_insert (ho : PE Z.X o (tVar i)) (ha : MA Z (e :: es) m p) (hbase : attributeBase o "insert" Z.X.env (eval o Z.X.env) = eval o Z.X.env := by rfl)
    (hfew : ((backTo cpos (starEach (e :: es) Z.X.env)).all (fun x => !x.1) && (backToKw cpos (keywordEach [] Z.X.env)).all (fun x => x.1.isSome)
      && decide ((e :: es).length + ([] : List Keyword).length + (if ([] : List Keyword).isEmpty then 0 else 1) < 30)) = true := by rfl)
    (hline : (apos.endLine == cpos.line) = true := by rfl) (hs : starEach (e :: es) Z.X.env = (false, eval e Z.X.env) :: starEach es Z.X.env := by rfl) (hplain : (backTo cpos (starEach es Z.X.env)).any (·.1) = false := by rfl) :
    ME Z (.Call (.Attribute o "insert" apos) (e :: es) [] cpos) (mMut i fInsert m) false true := me_mut PySem.F.slot_list_insert PySem.F.type_list_insert mut_insert ho ha hbase hfew hline hs hplain
end

/-! ### x[e1] = e2, x an owned list of the frame -/
def stoAt (i : Nat) (w j : W) (env : List W) : Out Fl := match env[i]? with
  | some (.lst true xs) => match j with
    | .int n => match ixN xs.length n with
      | some k => .ok .nx (env.set i (.lst true (xs.set k w)))
      | none => .bad
    | _ => .bad
  | _ => .bad
def sSto (i : Nat) (mi me : Sm W) : Sm Fl := Sm.bind me fun w env => if w.frz = true then match env[i]? with
  | some (.lst true _) => Sm.bind mi (fun j => stoAt i w j) env
  | _ => .bad
  else .bad
theorem RFs.set {D : Dn} {G : Hp} {w : W} {v : V} (r : RF D G w v) : ∀ {ws : List W} {vs : List V} (k : Nat), RFs D G ws vs → RFs D G (ws.set k w) (vs.set k v)
  | [], _, k, h => by rw [show _ = [] from h]; exact rfl
  | _ :: _, _, 0, h => by
    obtain ⟨u, us, rfl, h1, h2⟩ := h
    exact ⟨v, us, rfl, r, h2⟩
  | _ :: _, _, k + 1, h => by
    obtain ⟨u, us, rfl, h1, h2⟩ := h
    exact ⟨u, _, rfl, h1, RFs.set r k h2⟩
theorem ms_sto {Z : Zt} {o ix e : Expr} {i : Nat} {mi me : Sm W} {p1 p2 k1 k2 : Bool} {pos spos : Pos} (he : ME Z e me p2 k2) (ho : PE Z.X o (tVar i)) (hi : ME Z ix mi p1 k1)
    (ha : ∀ v, assign (.Subscript o ix spos) Z.X.env v = (do
      let ov ← holding [v] (eval o Z.X.env)
      let iv ← holding [v, ov] (eval ix Z.X.env)
      standAt spos
      holding [v, ov, iv] (setItem ov iv v)
      release [v, ov, iv] []) := by intro _; rfl)
    (hs : swapsWithSole [.Subscript o ix spos] e pos.line Z.X.env = pure false := by rfl) (hw : swappedStores [.Subscript o ix spos] e Z.X.env = pure none := by rfl)
    (h1 : (assignEach [.Subscript o ix spos] Z.X.env).map (·.2) = [assign (.Subscript o ix spos) Z.X.env] := by rfl) : MS Z (.Assign [.Subscript o ix spos] e pos) (sSto i mi me) :=
  ps_imp (ps_asg he (pg_sub ho hi set_list ha) hs hw h1) fun E σ H q => by
    obtain ⟨env, G, Os, s, q⟩ := q
    refine ⟨env, G, Os, s, ?_⟩
    unfold sSto Sm.bind at q
    cases e : me env with
    | bad => rw [e] at q; exact q
    | ex c env1 =>
      rw [e] at q
      exact fun G' H' Os' s' t => q σ G' H' Os' s' t.st (IoS.refl _)
    | ok w env1 =>
      rw [e] at q
      intro v G1 H1 Os1 Ow s1 r o t
      by_cases hf : w.frz = true
      · simp only [if_pos hf] at q
        obtain ⟨rfl, rf⟩ := r.toF hf
        cases e0 : env1[i]? with
        | none => simp only [e0] at q; exact q.elim
        | some w0 =>
          have key : ∃ xs0, w0 = .lst true xs0 := by
            cases w0 <;> first
              | (simp only [e0] at q; exact q.elim)
              | (rename_i b _; cases b <;> first | (simp only [e0] at q; exact q.elim) | exact ⟨_, rfl⟩)
          obtain ⟨xs0, rfl⟩ := key
          obtain ⟨a, vs0, h1, h2, h3, h4⟩ := s1.sl.atOwn e0
          simp only [e0] at q
          refine ⟨.ref a, h1, env1, G1, Os1, s1, ?_⟩
          cases e2 : mi env1 with
          | bad => simp only [e2] at q; exact q.elim
          | ex c env2 =>
            simp only [e2] at q
            exact fun G' H' Os' s' t' => q σ G' H' Os' s' (t.st.trans t'.st) (IoS.refl _)
          | ok j env2 =>
            simp only [e2] at q
            intro jv G2 H2 Os2 Oj s2 rj oj t2
            unfold stoAt at q
            cases e3 : env2[i]? with
            | none => simp only [e3] at q; exact q.elim
            | some w1 =>
              have key1 : ∃ xs1, w1 = .lst true xs1 := by
                cases w1 <;> first
                  | (simp only [e3] at q; exact q.elim)
                  | (rename_i b _; cases b <;> first | (simp only [e3] at q; exact q.elim) | exact ⟨_, rfl⟩)
              obtain ⟨xs1, rfl⟩ := key1
              simp only [e3] at q
              obtain ⟨a', vs1, g1, g2, g3, g4⟩ := s2.sl.atOwn e3
              rw [h1] at g1
              cases g1
              cases j with
              | int n =>
                cases e4 : ixN xs1.length n with
                | none => simp only [e4] at q; exact q.elim
                | some k =>
                  simp only [e4] at q
                  obtain ⟨_, rfl⟩ := rj
                  obtain ⟨s3, t3⟩ := s2.mut h1 g2 g3 (g4.set (RF.mono t2.gen.mono _ _ rf) k)
                  exact ⟨a, vs1, n, k, rfl, rfl, g3, by rw [← g4.len]; exact e4, q σ G2 _ Os2 s3 ((t.st.trans t2.st).trans t3) (IoS.refl _)⟩
              | _ => simp only at q; exact q.elim
      · simp only [if_neg hf] at q
        exact q.elim
end Ev

namespace Ev
open PySem PySem.Spec L2

/-! ### a slot seen as frozen from here on -/
def gFz (i : Nat) : Sm Unit := fun env => match env[i]? with
  | some (.lst true xs) => .ok () (env.set i (.lst false xs))
  | _ => .bad
def sGo (g : Sm Unit) (m : Sm Fl) : Sm Fl := Sm.bind g fun _ => m
theorem StOk.fz {D : Dn} {G H : Hp} {env : List W} {σ : St} {Os : List (List Addr)} {i : Nat} {xs : List W} (s : StOk D G H env σ Os) (e : env[i]? = some (.lst true xs)) :
    ∃ G', StOk D G' H (env.set i (.lst false xs)) σ (Os.set i []) ∧ Step G H Os.flatten G' H (Os.set i []).flatten := by
  obtain ⟨a, vs, h1, h2, h3, h4⟩ := s.sl.atOwn e
  have ha : a ∈ Os.flatten := List.mem_flatten.mpr ⟨_, List.mem_of_getElem? h2, List.mem_cons_self⟩
  have ga := s.gn a ha
  have mono : Sub G (upd G a (.lst vs)) := sub_new ga
  have no := once s.nd h2
  refine ⟨upd G a (.lst vs), ⟨?_, fun b x hb => ?_, fun b hb => ?_, flat_nd s.nd⟩, mono, fun b x hb _ => hb, fun b x hb hn _ g => ?_, fun b hb => .inl (flat_sub b hb)⟩
  · have s0 : Sl D (upd G a (.lst vs)) H env σ Os := s.sl.mono mono fun _ _ _ h => h
    have z := Sl.set (D := D) (G := upd G a (.lst vs)) (H := H) (w := .lst false xs) (s := some (.ref a)) (O := []) (.inl ⟨.ref a, rfl, rfl, a, vs, rfl, upd_same, RFs.mono mono _ _ h4⟩) i s0
    rwa [set_self h1] at z
  · by_cases eb : b = a
    · subst eb
      rw [upd_same] at hb
      cases hb
      exact h3
    · rw [upd_ne eb] at hb; exact s.sub b x hb
  · have nb : b ≠ a := fun e => no (by rw [← e]; exact hb)
    rw [upd_ne nb]; exact s.gn b (flat_sub b hb)
  · have nb : b ≠ a := fun e => hn (by rw [e]; exact ha)
    rw [upd_ne nb]; exact g
theorem mss_fz {Z : Zt} {st : List Stmt} {m : Sm Fl} (i : Nat) (h : MSs Z st m) : MSs Z st (sGo (gFz i) m) := pss_imp h fun E σ H q => by
  obtain ⟨env, G, Os, s, q⟩ := q
  unfold sGo gFz Sm.bind at q
  cases e : env[i]? with
  | none => simp only [e] at q; exact q.elim
  | some w =>
    have key : ∃ xs, w = .lst true xs := by
      cases w <;> first
        | (exfalso; simp only [e] at q; exact q.elim)
        | (rename_i b _; cases b <;> first | (exfalso; simp only [e] at q; exact q.elim) | exact ⟨_, rfl⟩)
    obtain ⟨xs, rfl⟩ := key
    simp only [e] at q
    obtain ⟨G', s', t⟩ := s.fz e
    exact TSx.on s' t (IoS.refl _) q

/-! ### raise -/
structure ClsT (K : PySem.W.Frag) (mg : Str → Option Value) (CA : Nat → Addr) (x : Str) (c : Nat) : Prop where
  g : mg x = some (.ref (CA c))
  x : PySem.W.excIn K (CA c) [.type "ValueError", .type "Exception", .type "BaseException", .type "object"] "ValueError.__new__" = true
  k : PySem.W.keepIn K (.ref (CA c)) = true
  b : PySem.W.subIn K (.ref (CA c)) (.type "BaseException") = some true
  t : PySem.W.typeIn K (.ref (CA c)) = some (.type "type")
def sRaise (c : Nat) : Sm Fl := fun env => .ex c env
theorem ms_raise {Z : Zt} {x msg : Str} {c j : Nat} {p p2 pos pos2 : Pos} (C : ClsT Z.X.K Z.X.mg Z.CA x c) (hc : Z.X.calm = true) (tk : Takes Z.X Z.W) (hg : Gl Z.X x) (hdb : (x == ("__debug__" : Str)) = false := by decide) : MS Z (.Raise (some (.Call (.Name x p) [.Constant (.str msg) j p2] [] pos2)) none pos) (sRaise c) :=
  ps_imp (ps_raise hc tk (pmk_own PySem.F.excBase_ValueError C.x C.g C.k (raises_own C.b C.t) hg hdb)) fun E σ H q => by
    obtain ⟨env, G, Os, s, q⟩ := q
    exact q σ G H Os s (Step.refl _ _ _) (IoS.refl _)

/-! ### a def by its body -/
def maskL : List Bool → List W → List W
  | [], _ => []
  | b :: bs, [] => .dead :: maskL bs []
  | b :: bs, w :: env => cond b w .dead :: maskL bs env
def fnSem (N : Nat) (io : List Bool) (body : Sm Fl) : Fn := fun ws => match body (ws ++ List.replicate (N - ws.length) .dead) with
  | .ok (.rt w) env => .ok w (maskL io env)
  | .ok .nx env => .ok .non (maskL io env)
  | .ok _ _ => .bad
  | .ex c env => .ex c (maskL io env)
  | .bad => .bad
def ioF (io : List Bool) : Nat → Bool := fun i => io.getD i false
theorem ROs.slots {D : Dn} {G H : Hp} : ∀ {ws : List W} {vs : List V} {O : List Addr}, ROs D G H ws vs O → ∃ Os, Os.flatten = O ∧ Sl D G H ws (vs.map some) Os
  | [], _, _, h => ⟨[], by rw [h.2]; rfl, by rw [h.1]; exact ⟨rfl, rfl⟩⟩
  | w :: ws, _, _, h => by
    obtain ⟨v, r, O1, O2, rfl, rfl, h1, h2⟩ := h
    obtain ⟨Os, e, s⟩ := ROs.slots h2
    exact ⟨O1 :: Os, by rw [List.flatten_cons, e], some v, _, O1, Os, rfl, rfl, .inl ⟨v, rfl, h1⟩, s⟩
theorem Sl.app {D : Dn} {G H : Hp} : ∀ {env env' : List W} {σ σ' : St} {Os Os' : List (List Addr)}, Sl D G H env σ Os → Sl D G H env' σ' Os' → Sl D G H (env ++ env') (σ ++ σ') (Os ++ Os')
  | [], _, _, _, _, _, h, k => by rw [h.1, h.2]; exact k
  | w :: env, _, _, _, _, _, h, k => by
    obtain ⟨s, σ', O, Os', rfl, rfl, h1, h2⟩ := h
    exact ⟨s, _, O, _, rfl, rfl, h1, Sl.app h2 k⟩
theorem Sl.deads {D : Dn} {G H : Hp} : ∀ n : Nat, Sl D G H (List.replicate n .dead) (List.replicate n none) (List.replicate n [])
  | 0 => ⟨rfl, rfl⟩
  | n + 1 => ⟨none, _, [], _, rfl, rfl, .inr ⟨rfl, rfl⟩, Sl.deads n⟩
theorem flat_reps : ∀ n : Nat, (List.replicate n ([] : List Addr)).flatten = []
  | 0 => rfl
  | n + 1 => by rw [List.replicate_succ, List.flatten_cons, flat_reps n]; rfl
/-- at the end: what the parameters' things hold -/
theorem Sl.mask {D : Dn} {G H : Hp} : ∀ {io : List Bool} {env : List W} {σ' : St} {Os : List (List Addr)} {vs : List V}, Sl D G H env σ' Os → vs.length = io.length → (∀ i, io.getD i false = true → σ'[i]? = some vs[i]?) →
    ∃ O, ROs D G H (maskL io env) vs O ∧ List.Sublist O Os.flatten
  | [], env, σ', Os, vs, s, hl, h => by
    have e : vs = [] := List.eq_nil_of_length_eq_zero hl
    subst e
    exact ⟨[], ⟨rfl, rfl⟩, List.nil_sublist _⟩
  | b :: io, [], σ', Os, v :: vs, s, hl, h => by
    obtain ⟨rfl, rfl⟩ := s
    obtain ⟨O, r, sub⟩ := Sl.mask (io := io) (env := []) (σ' := []) (Os := []) (vs := vs) ⟨rfl, rfl⟩ (Nat.succ.inj hl) fun i hi => by
      have z := h (i + 1) hi
      simp at z
    exact ⟨O, ⟨v, vs, [], O, rfl, rfl, rfl, r⟩, sub⟩
  | b :: io, w :: env, σ', Os, v :: vs, s, hl, h => by
    obtain ⟨sv, σ2, O1, Os2, rfl, rfl, h1, h2⟩ := s
    obtain ⟨O, r, sub⟩ := Sl.mask (io := io) h2 (Nat.succ.inj hl) fun i hi => by
      have z := h (i + 1) hi
      simpa using z
    cases b with
    | false => exact ⟨O, ⟨v, vs, [], O, rfl, rfl, rfl, r⟩, by rw [List.flatten_cons]; exact sub.trans (List.sublist_append_right _ _)⟩
    | true =>
      have z := h 0 rfl
      simp at z
      rcases h1 with ⟨v', e1, h1⟩ | ⟨e1, e2⟩
      · rw [z] at e1
        cases e1
        exact ⟨O1 ++ O, ⟨v, vs, O1, O, rfl, rfl, h1, r⟩, by rw [List.flatten_cons]; exact sub.append_left _⟩
      · subst e1 e2
        exact ⟨O, ⟨v, vs, [], O, rfl, rfl, rfl, r⟩, by rw [List.flatten_cons]; exact sub⟩
  | b :: io, env, σ', Os, [], s, hl, h => nomatch hl
/-- the configuration of a def's body -/
abbrev Zf (P : Program) (w : World) (K : PySem.W.Frag) (mg : Str → Option Value) (base : Heap) (CA : Nat → Addr) (N : List Str) (qual : Str) (scope : Scope) (f : Addr) (cd : Value) (A : Around) (outer : List Env) (s : Shared) (H : Hp) (E : XK) (io : List Bool) : Zt :=
  ⟨cxOf (L2.CX P w) P w K mg base N qual scope f cd A outer s H E, CA, fun cls d _ H' => E cls d H', ioF io⟩
theorem fn_body {P : Program} {w : World} {K : PySem.W.Frag} {mg : Str → Option Value} {base : Heap} {CA : Nat → Addr} {x qual : Str} {st : Stmt} {f : Addr} {fd : FuncData} {N ps : List Str} {k : Nat} {io : List Bool} {body : Sm Fl} {nN : Nat} (F : Fun K x qual st f fd) (S : FnScope N ps (defScope st)) (hn : N.length = nN)
    (hio : io.length = ps.length) (hbody : ∀ (cdv : Value) (A : Around) (outer : List Env) (s : Shared) (H : Hp) (E : XK), Room k (A.deeper (PyProof.Rows.envOfC qual (defScope st) s.heap.objs.size f cdv)) →
      MSs (Zf P w K mg base CA N qual (defScope st) f cdv A outer s H E io) (defBody st) body) : FnOk P w K mg base (L2.CX P w) (k + 1) f fd ps (spOf ⟨K, CA⟩ ps.length (fnSem nN io body)) := by
  refine F.okX S (fun vs H Q E h => h.1) fun cdv A outer s H vs Q E hr hsp => ⟨_, hbody cdv A outer s H E hr, ?_⟩
  obtain ⟨hl, ws, G, O, sub, ro, nd, gn, q⟩ := hsp
  obtain ⟨Os, e, sl⟩ := ro.slots
  have lw : ws.length = vs.length := ro.len
  have hlN : ps.length ≤ N.length := by have := congrArg List.length S.pre; rw [List.length_take] at this; omega
  refine ⟨ws ++ List.replicate (nN - ws.length) .dead, G, Os ++ List.replicate (nN - ws.length) [], ⟨?_, sub, ?_, ?_⟩, ?_⟩
  · have z := sl.app (Sl.deads (D := ⟨K, CA⟩) (G := G) (H := H) (nN - ws.length))
    unfold L2.start
    rw [hn, ← lw]
    exact z
  · rw [List.flatten_append, flat_reps, List.append_nil, e]; exact gn
  · rw [List.flatten_append, flat_reps, List.append_nil, e]; exact nd
  have fO : (Os ++ List.replicate (nN - ws.length) ([] : List Addr)).flatten = O := by rw [List.flatten_append, flat_reps, List.append_nil, e]
  have slot : ∀ {σ' : St}, IoS (ioF io) (start N vs) σ' → ∀ i, io.getD i false = true → σ'[i]? = some vs[i]? := fun {σ'} h i hi => by
    rw [h i hi]
    have hi' : i < io.length := by
      rcases Nat.lt_or_ge i io.length with z | z
      · exact z
      · rw [List.getD_eq_getElem?_getD, List.getElem?_eq_none z] at hi; cases hi
    have hv : i < vs.length := by rw [hl, ← hio]; exact hi'
    unfold L2.start
    rw [List.getElem?_append_left (by rw [List.length_map]; exact hv), List.getElem?_map, List.getElem?_eq_getElem hv]
    rfl
  have fin : ∀ {env' : List W} {σ' : St} {G' H' : Hp} {Os' : List (List Addr)} {Ow : List Addr}, StOk ⟨K, CA⟩ G' H' env' σ' Os' → (Os'.flatten ++ Ow).Nodup → (∀ a ∈ Ow, G' a = none) → Step G H O G' H' (Os'.flatten ++ Ow) → IoS (ioF io) (start N vs) σ' →
      ∃ O', ROs ⟨K, CA⟩ G' H' (maskL io env') vs O' ∧ (O' ++ Ow).Nodup ∧ (∀ a ∈ O' ++ Ow, G' a = none) ∧ Step G H O G' H' (O' ++ Ow) := fun {env' σ' G' H' Os' Ow} s nd gn st io' => by
    obtain ⟨O', r, sl⟩ := s.sl.mask (by rw [hl, hio]) (slot io')
    have s2 : List.Sublist (O' ++ Ow) (Os'.flatten ++ Ow) := List.Sublist.append sl (List.Sublist.refl _)
    refine ⟨O', r, nd.sublist s2, fun a ha => ?_, st.less fun a ha => s2.subset ha⟩
    rcases List.mem_append.mp ha with z | z
    · exact s.gn a (sl.subset z)
    · exact gn a z
  unfold fnSem at q
  cases eb : body (ws ++ List.replicate (nN - ws.length) .dead) with
  | bad => simp only [eb] at q
  | ex c env' =>
    simp only [eb] at q
    intro σ' G' H' Os' s' t io'
    rw [fO] at t
    obtain ⟨O', a1, a2, a3, a4⟩ := fin (Ow := []) s' (by rw [List.append_nil]; exact s'.nd) (fun _ z => nomatch z) (by rw [List.append_nil]; exact t) io'
    rw [List.append_nil] at a2 a3 a4
    exact q G' H' O' s'.sub a1 a2 a3 a4
  | ok fl env' =>
    cases fl with
    | nx =>
      simp only [eb] at q
      intro σ' G' H' Os' s' t io'
      rw [fO] at t
      obtain ⟨O', a1, a2, a3, a4⟩ := fin (Ow := []) s' (by rw [List.append_nil]; exact s'.nd) (fun _ z => nomatch z) (by rw [List.append_nil]; exact t) io'
      exact q .non G' H' O' [] s'.sub a1 ⟨rfl, rfl⟩ a2 a3 a4
    | bk => simp only [eb] at q
    | ct => simp only [eb] at q
    | rt w =>
      simp only [eb] at q
      intro v σ' G' H' Os' Ow s' r o t io'
      rw [fO] at t
      obtain ⟨O', a1, a2, a3, a4⟩ := fin s' o.1 o.2 t io'
      exact q v G' H' O' Ow s'.sub a1 r a2 a3 a4
/-- a def of the module, by its body -/
theorem fnt_body {P : Program} {w : World} {K : PySem.W.Frag} {mg : Str → Option Value} {base : Heap} {CA : Nat → Addr} {x qual : Str} {st : Stmt} {f : Addr} {fd : FuncData} {N ps : List Str} {k n : Nat} {io : List Bool} {body : Sm Fl} {nN : Nat} (F : Fun K x qual st f fd) (g : mg x = some (.ref f)) (hb : Binds K fd ps []) (S : FnScope N ps (defScope st)) (hn : N.length = nN)
    (hio : io.length = ps.length) (hps : ps.length = n) (hbody : ∀ (cdv : Value) (A : Around) (outer : List Env) (s : Shared) (H : Hp) (E : XK), Room k (A.deeper (PyProof.Rows.envOfC qual (defScope st) s.heap.objs.size f cdv)) →
      MSs (Zf P w K mg base CA N qual (defScope st) f cdv A outer s H E io) (defBody st) body) : FnT P w K mg base CA x n (k + 1) (fnSem nN io body) := by
  subst hps
  exact ⟨f, fd, ps, fn_body F S hn hio hbody, g, F.kp, hb⟩
/-- what a body may use -/
theorem zf_takes {P : Program} {w : World} {K : PySem.W.Frag} {mg : Str → Option Value} {base : Heap} {CA : Nat → Addr} {N : List Str} {qual : Str} {scope : Scope} {f : Addr} {cd : Value} {A : Around} {outer : List Env} {s : Shared} {H : Hp} {E : XK} {io : List Bool} :
    Takes (Zf P w K mg base CA N qual scope f cd A outer s H E io).X (Zf P w K mg base CA N qual scope f cd A outer s H E io).W := takes_of rfl rfl rfl rfl
theorem zf_pass {P : Program} {w : World} {K : PySem.W.Frag} {mg : Str → Option Value} {base : Heap} {CA : Nat → Addr} {N : List Str} {qual : Str} {scope : Scope} {f : Addr} {cd : Value} {A : Around} {outer : List Env} {s : Shared} {H : Hp} {E : XK} {io : List Bool} :
    PassesOwn (model (Zf P w K mg base CA N qual scope f cd A outer s H E io).X.prog (Zf P w K mg base CA N qual scope f cd A outer s H E io).X.w) (Zf P w K mg base CA N qual scope f cd A outer s H E io).X.A (Zf P w K mg base CA N qual scope f cd A outer s H E io).X.env (Zf P w K mg base CA N qual scope f cd A outer s H E io).X.xe := passes_of rfl
theorem blk_takes {Z : Zt} {s : Shared} {H : Hp} {scope : Scope} {C : Addr} {cl : List (Str × Addr)} {fp : List Addr} {vs : List Nat} : Takes (Z.blk s H scope C cl fp vs).X (Z.blk s H scope C cl fp vs).W := takes0
end Ev

namespace Ev
open PySem PySem.Spec L2

/-! ### try: .. / except C as n: y = n, the error kept -/
theorem keepExc {X : Cx} {pins : List (Addr × Obj)} {σ : L2.St} {H : Hp} {s sI : Shared} {σI : L2.St} {HI : Hp} {a C : Addr} {oe : Obj} {flds : Array Value} (hex : X.ex = []) (I : L2.Inv X pins σ H s) (I0 : L2.Inv X pins σI HI sI) (new : sI.heap.get? a = none)
    (here : s.heap.get? a = some oe) (z : Zc (.ref C) none oe) (dat : oe.data = .fields flds) (na : H a = none) (nL : a ≠ X.env.locals) : L2.Inv X pins σ (upd H a (ExC C a)) s := by
  have nex : ∀ b : Addr, b ∉ X.ex := fun b h => by rw [hex] at h; cases h
  have gone0 : X.s_0.heap.get? a = none := by
    cases q : X.s_0.heap.get? a with
    | none => rfl
    | some o =>
      obtain ⟨o', e⟩ := I0.base.there a o q (nex a)
      rw [new] at e; cases e
  have other : ∀ {b : Addr} {o : HO}, H b = some o → upd H a (ExC C a) b = some o := fun {b o} h => by rw [upd_ne (ne_of_none h na)]; exact h
  refine ⟨I.ok, I.os, I.bare, ⟨I.base.keep, I.base.slot, fun b o e n hx => ?_, I.base.there, fun b xs e => other (I.base.tups b xs e), fun b o u e => other (I.base.frzs b o u e), fun b ps e => ?_⟩, I.loc, I.cell, ?_, fun x c e => ?_, fun p hp => ?_, fun b u e => ?_, I.len⟩
  · have nb : b ≠ a := fun h => by rw [h, gone0] at e; cases e
    rw [upd_ne nb]; exact I.base.free b o e n hx
  · obtain ⟨more, h⟩ := I.base.tbls b ps e
    exact ⟨more, other h⟩
  · rw [upd_ne (Ne.symm nL)]; exact I.free
  · have nc : c ≠ a := fun h => by
      obtain ⟨v, o, ho, hd⟩ := I.cell x c e
      rw [h, here] at ho
      cases ho
      rw [dat] at hd; cases hd
    rw [upd_ne nc]; exact I.freeC x c e
  · obtain ⟨e, n, ne, nf, d⟩ := I.pin p hp
    have np : p.1 ≠ a := fun h => by
      have e0 := (I0.pin p hp).1
      rw [h, new] at e0; cases e0
    exact ⟨e, by rw [upd_ne np]; exact n, ne, nf, d⟩
  · by_cases hb : b = a
    · subst hb
      rw [upd_same] at e
      cases e
      exact ⟨⟨oe, flds, here, z, dat⟩, ⟨oe, here⟩, fun _ _ ⟨o, f, q, r⟩ k => ⟨o, f, k o q, r⟩⟩
    · rw [upd_ne hb] at e
      exact (I.hok b u e).stay (fun _ _ _ q => q) (fun c q => other q) fun c xs q => other q
def wKeep (K : PySem.W.Frag) (c : Value) (i j : Nat) (Wout : WX) (D : Ends) : WX := fun cls d σ H => ∃ b, PySem.W.exmOne K cls c = some b ∧ (b = true → d = none ∧ ∃ C, cls = .ref C ∧ ∀ a, H a = none → D.nx (((σ.set i (some (.ref a))).set j (some (.ref a))).set i none) (upd H a (ExC C a))) ∧ (b = false → Wout cls d σ H)
theorem ps_try_keep {X : Cx} {x n y : Str} {c : Value} {i j : Nat} {body : List Stmt} {np pos pos' q1 q2 q3 : Pos} {tb : WX → TS} {Wout : WX} (stk : X.stack = X.env :: X.outer) (frm : X.env.frame = some X.env.locals) (hex : X.ex = []) (ndN : X.N.Nodup) (ixn : X.N[i]? = some n) (ln : X.env.kindOf n = some .local) (ixy : X.N[j]? = some y) (ly : X.env.scope.names.lookup y = some .local) (cn : Names X x c) (tk : Takes X Wout)
    (hb : ∀ (W : WX) (pn : List (Addr × Obj)) (xe : Value → Shared → Prop), Takes (X.tr pn xe) W → PassesOwn (model X.prog X.w) X.A X.env xe → PSs (X.tr pn xe) body (tb W))
    (hdn : (n == ("__debug__" : Str)) = false := by decide) (hcn : (n == ("__classdict__" : Str)) = false := by decide)
    (hsw : ∀ a pn, swapsWith (.Name n q1) (some (.Name y q2)) q3.line (X.suite a pn).env = pure false := by intros; rfl) :
    PS X (.Try body [.ExceptHandler (some (.Name x np)) (some n) [.Assign [.Name y q2] (.Name n q1) q3] pos'] [] [] pos) (fun D σ H => tb (wKeep X.K c i j Wout D) D σ H) := by
  refine ⟨fun pins s σ H D I h => ?_⟩
  have okX := I.ok
  have frames : X.A.frames = some (X.env :: X.outer) := by rw [okX.frames, stk]
  refine wpAny_Try_except ?_
  have body1 := hb (wKeep X.K c i j Wout D) (X.pn ++ pins) (fun e s₁ => wpAny (model X.prog X.w) X.A (noteFrame e X.env)
    (fun _ s₂ => wpAny (model X.prog X.w) X.A (setFlight e none) (fun _ s₃ => wpAny (model X.prog X.w) X.A
      (handleBy e X.env [.ExceptHandler (some (.Name x np)) (some n) [.Assign [.Name y q2] (.Name n q1) q3] pos']) (SP X pins D) X.xe s₃) X.xe s₂) X.xe s₁)
  refine wpAny_mono ((body1 ?takes PassesOwn.looking).run [] s σ H D (I.toTry _) h) ?done (fun e s1 he => he)
  case takes =>
    intro u s' air
    obtain ⟨a, B, sI, pins0, σ', H', cls, d, rfl, J0, ground, up, sky, na, os, ag, b, hb1, hyes, hno⟩ := air
    have J : L2.Inv X pins σ' H' sI := J0.ofTry okX
    have skyX : Sky B (X.env :: X.outer) a (Zc cls d) X.env.locals s'.heap := by rw [← stk]; exact sky
    show wpAny (model X.prog X.w) X.A (noteFrame (.ref a) X.env) _ _ _
    refine Sky.land Zc.steady frames frm skyX fun h3 fly3 up3 => ?_
    have J3 : L2.Inv X pins σ' H' { s' with heap := h3 } := J.landed ground fly3.1 (up.trans up3) os ag
    obtain ⟨ob3, fs3, there3, is3, dat3⟩ := fly3.there
    have apart : a ∉ frs (X.env :: X.outer) := fun hm => by
      obtain ⟨_, o', e', hnf⟩ := fly3.2.2.1.mem hm
      rw [there3] at e'
      cases e'
      exact hnf _ dat3
    have aL : a ≠ X.env.locals := fun z => apart (List.mem_filterMap.mpr ⟨X.env, List.mem_cons_self, by rw [frm, z]⟩)
    have aF : a ∉ X.fs := fun hm => by
      obtain ⟨e, he, q⟩ := List.mem_filterMap.mp hm
      exact apart (List.mem_filterMap.mpr ⟨e, List.mem_cons_of_mem _ he, q⟩)
    have newI : sI.heap.get? a = none := by
      cases q : sI.heap.get? a with
      | none => rfl
      | some o =>
        have z := ground a o q (by rw [stk]; exact apart)
        rw [fly3.2.1] at z; cases z
    have S3 := J3.suite there3 dat3 na aL aF
    refine wpAny_handleBy_cons (codeAny_handlers_test ?_) (by intro q; cases q)
    have looks : PySem.W.Looks (model X.prog X.w) h3 (typeOf (.ref a)) cls := fun A Q E s k q => wpAny_typeOf_ref (k _ _ there3) (by rw [is3.1]; exact q)
    have match_ := PySem.W.exm_one (M := model X.prog X.w) (J3.kIn) looks hb1
    have named : ∀ {Q : Value → Shared → Prop} {E : Value → Shared → Prop}, Q c { s' with heap := h3 } →
        wpAny (model X.prog X.w) (X.A.mark (some (.ref a))) (eval (.Name x np) X.env) Q E { s' with heap := h3 } := fun {Q E} q => by
      rcases cn with ⟨g1, g2, g3 | ⟨g3, g4, g5⟩⟩
      · exact ld_glob (X := X.suite a ((a, ob3) :: (X.pn ++ pins))) S3 g1 g3 q g2
      · exact ld_blt (X := X.suite a ((a, ob3) :: (X.pn ++ pins))) S3 g1 g3 g4 q g5 g2
    refine named (match_.here ?_)
    cases b with
    | true =>
      obtain ⟨rfl, C, rfl, fin⟩ := hyes rfl
      refine codeAny_handlers_suite_as ?_
      refine HandSPX.lands_againZ fly3 fun h4 fly4 up4 => ?_
      have J4 : L2.Inv X pins σ' H' { s' with heap := h4 } := J.landed ground fly4.1 ((up.trans up3).trans up4) os ag
      obtain ⟨ob4, fs4, there4, is4, dat4⟩ := fly4.there
      have S4 := J4.suite there4 dat4 na aL aF
      refine store_ok (X := X.suite a ((a, ob4) :: (X.pn ++ pins))) (v := .ref a) S4 ndN ixn (.inl ln) rfl (fun s5 S5 => ?_) (.inr ln)
      have len5 : i < σ'.length := by rw [J.len]; exact (List.getElem?_eq_some_iff.mp ixn).1
      have one : PSs (X.suite a ((a, ob4) :: (X.pn ++ pins))) [.Assign [.Name y q2] (.Name n q1) q3] (tAsg (tVar i) (gName j)) :=
        pss_one (ps_set (X := X.suite a ((a, ob4) :: (X.pn ++ pins))) ndN ixy (.inl ly) (pe_var ixn (.inl ln) hdn hcn) (hsw _ _) (.inr ly))
      refine wpAny_mono (one.run [] s5 _ H' { nx := fun σ6 H6 => σ6 = (σ'.set i (some (.ref a))).set j (some (.ref a)) ∧ H6 = H', rt := fun _ _ => False } S5 ⟨.ref a, List.getElem?_set_self len5, rfl, rfl⟩) (fun f s6 hsp => ?_) (fun _ _ z => z.elim)
      cases f with
      | next =>
        obtain ⟨σ6, H6, S6, rfl, rfl⟩ := hsp
        refine gone_ok (X := X.suite a ((a, ob4) :: (X.pn ++ pins))) S6 ndN ixn ln fun s7 S7 => ?_
        have pin7 := S7.pin (a, ob4) (List.mem_append_left _ List.mem_cons_self)
        exact ⟨_, _, keepExc hex (S7.unsuite okX) J newI pin7.1 is4 dat4 na aL, fin a na⟩
      | brk => obtain ⟨_, _, _, z⟩ := hsp; exact z.elim
      | cont => obtain ⟨_, _, _, z⟩ := hsp; exact z.elim
      | ret u => obtain ⟨_, _, _, _, _, z⟩ := hsp; exact z.elim
    | false =>
      show wpAny _ X.A (handleBy (.ref a) X.env []) _ _ _
      refine wpAny_handleBy_nil ?_
      obtain ⟨_, _, _, ob, fs, T, oT, ts', hob, _, hfs, h1, _⟩ := id fly3
      unfold PySem.passOn
      refine wpAny_bind (wpAny_field hob hfs h1 ?_)
      rw [if_neg (show ¬ ((Value.ref T == Value.none) = true) by simp)]
      have away : wpAny (model X.prog X.w) X.A (setFlight (.ref a) X.env.frame)
          (fun _ s4 => wpAny (model X.prog X.w) X.A (throw (.ref a) : PySem.Sem Flow) (SP X pins D) X.xe s4) X.xe { s' with heap := h3 } := by
        rw [frm]
        refine HandSPX.setFlight_upZ fly3 fun h4 held4 up4 => wpAny_throw (tk _ _ ?_)
        exact ⟨a, B, sI, pins, σ', H', cls, d, rfl, J, ground, (up.trans up3).trans up4, .inr (.inr (by rw [stk]; exact held4)), na, os, ag, hno rfl⟩
      first
        | exact wpAny_bind (wpAny_pure (wpAny_bind away))
        | exact wpAny_bind away
  case done =>
    intro f s1 hsp
    cases f with
    | next =>
      obtain ⟨σ', H', J', q⟩ := hsp
      exact wpAny_execs_nil ⟨_, _, J'.ofTry okX, q⟩
    | brk =>
      obtain ⟨σ', H', J', q⟩ := hsp
      exact ⟨_, _, J'.ofTry okX, q⟩
    | cont =>
      obtain ⟨σ', H', J', q⟩ := hsp
      exact ⟨_, _, J'.ofTry okX, q⟩
    | ret u =>
      obtain ⟨v, σ', H', J', r, q⟩ := hsp
      exact ⟨_, _, _, J'.ofTry okX, r, q⟩
end Ev

namespace Ev
open PySem PySem.Spec L2

abbrev Zt.tr (Z : Zt) (pn : List (Addr × Obj)) (xe : Value → Shared → Prop) (W : WX) : Zt := ⟨Z.X.tr pn xe, Z.CA, W, Z.io⟩
def sTry (acc : Nat → Option Bool) (i j : Nat) (mb : Sm Fl) : Sm Fl := fun env => match mb env with
  | .ex x env1 => match acc x with
    | some true => .ok .nx ((env1.set j (.exc x)).set i .dead)
    | some false => .ex x env1
    | none => .bad
  | o => o
theorem ms_try {Z : Zt} {x n y : Str} {c : Value} {i j : Nat} {body : List Stmt} {np pos pos' q1 q2 q3 : Pos} {mb : Sm Fl} (acc : Nat → Option Bool) (hacc : ∀ k b, acc k = some b → PySem.W.exmOne Z.X.K (.ref (Z.CA k)) c = some b) (cn : Names Z.X x c) (tk : Takes Z.X Z.W)
    (hb : ∀ (W : WX) (pn : List (Addr × Obj)) (xe : Value → Shared → Prop), Takes (Z.X.tr pn xe) W → PassesOwn (model Z.X.prog Z.X.w) Z.X.A Z.X.env xe → MSs (Z.tr pn xe W) body mb)
    (ndN : Z.X.N.Nodup) (stk : Z.X.stack = Z.X.env :: Z.X.outer := by rfl) (frm : Z.X.env.frame = some Z.X.env.locals := by rfl) (hex : Z.X.ex = [] := by rfl) (ixn : Z.X.N[i]? = some n := by rfl) (ln : Z.X.env.kindOf n = some .local := by rfl) (ixy : Z.X.N[j]? = some y := by rfl) (ly : Z.X.env.scope.names.lookup y = some .local := by rfl)
    (hij : i ≠ j := by decide) (hioi : Z.io i = false := by rfl) (hioj : Z.io j = false := by rfl) (hdn : (n == ("__debug__" : Str)) = false := by decide) (hcn : (n == ("__classdict__" : Str)) = false := by decide)
    (hsw : ∀ a pn, swapsWith (.Name n q1) (some (.Name y q2)) q3.line (Z.X.suite a pn).env = pure false := by intros; rfl) :
    MS Z (.Try body [.ExceptHandler (some (.Name x np)) (some n) [.Assign [.Name y q2] (.Name n q1) q3] pos'] [] [] pos) (sTry acc i j mb) := by
  refine ps_imp (ps_try_keep (tb := fun W => TSx Z.D W Z.io mb) stk frm hex ndN ixn ln ixy ly cn tk (fun W pn xe t p => hb W pn xe t p) hdn hcn hsw) fun E σ H q => ?_
  obtain ⟨env, G, Os, s, q⟩ := q
  refine ⟨env, G, Os, s, ?_⟩
  unfold sTry at q
  cases e : mb env with
  | bad => rw [e] at q; exact q
  | ok fl env1 =>
    rw [e] at q
    cases fl <;> exact q
  | ex k env1 =>
    rw [e] at q
    intro σ' G' H' Os' s' t io'
    cases ea : acc k with
    | none => simp only [ea] at q; exact q.elim
    | some b =>
      refine ⟨b, hacc k b ea, fun hb => ?_, fun hb => ?_⟩
      · subst hb
        simp only [ea] at q
        refine ⟨rfl, _, rfl, fun a na => ?_⟩
        have ga : G' a = none := sub_none s'.sub na
        have mono : Sub G' (upd G' a (ExC (Z.CA k) a)) := sub_new ga
        have no : a ∉ Os'.flatten := fun z => s'.sl.there a z na
        have eσ : ((σ'.set i (some (.ref a))).set j (some (.ref a))).set i none = (σ'.set j (some (.ref a))).set i none := by
          rw [List.set_comm _ _ hij, List.set_set]
        rw [eσ]
        have s0 : Sl Z.D (upd G' a (ExC (Z.CA k) a)) (upd H' a (ExC (Z.CA k) a)) env1 σ' Os' := s'.sl.mono mono fun b hb x hx => by
          rw [upd_ne (fun e => no (by rw [← e]; exact hb))]; exact hx
        have s1 := Sl.set (D := Z.D) (w := .exc k) (s := some (.ref a)) (O := []) (.inl ⟨.ref a, rfl, rfl, a, rfl, upd_same⟩) j s0
        have s2 := Sl.set (D := Z.D) (w := .dead) (s := none) (O := []) (.inr ⟨rfl, rfl⟩) i s1
        have hsub : ∀ b ∈ ((Os'.set j []).set i []).flatten, b ∈ Os'.flatten := fun b hb => flat_sub b (flat_sub b hb)
        have s3 : StOk Z.D (upd G' a (ExC (Z.CA k) a)) (upd H' a (ExC (Z.CA k) a)) ((env1.set j (.exc k)).set i .dead) ((σ'.set j (some (.ref a))).set i none) ((Os'.set j []).set i []) :=
          ⟨s2, sub_upd2 s'.sub, fun b hb => by rw [upd_ne (fun e => no (by rw [← e]; exact hsub b hb))]; exact s'.gn b (hsub b hb), flat_nd (flat_nd s'.nd)⟩
        have st : Step G' H' Os'.flatten (upd G' a (ExC (Z.CA k) a)) (upd H' a (ExC (Z.CA k) a)) ((Os'.set j []).set i []).flatten :=
          ⟨mono, fun b x h _ => sub_new na b x h, fun b x h _ _ g => by rw [upd_ne (ne_of_none h na)]; exact g, fun b hb => .inl (hsub b hb)⟩
        exact q _ _ _ _ s3 (t.trans st) (io'.trans ((IoS.set hioj).trans (IoS.set hioi)))
      · subst hb
        simp only [ea] at q
        exact q σ' G' H' Os' s' t io'

/-! ### a call that looks at owned lists -/
mutual
def W.flat : W → Bool
  | .non => true
  | .bl _ => true
  | .int _ => true
  | .str _ => true
  | .tup ws => flats ws
  | _ => false
def flats : List W → Bool
  | [] => true
  | w :: ws => w.flat && flats ws
end
mutual
theorem RF.thin {D : Dn} {G G' : Hp} (h : ∀ a vs, SqT D.K G a vs → SqT D.K G' a vs) : ∀ (w : W) (v : V), w.flat = true → RF D G w v → RF D G' w v
  | .non, _, _, r => r
  | .bl _, _, _, r => r
  | .int _, _, _, r => r
  | .str _, _, _, r => r
  | .tup ws, _, f, r => by
    obtain ⟨a, vs, rfl, r1, r2⟩ := r
    exact ⟨a, vs, rfl, h a vs r1, RFs.thin h ws vs f r2⟩
  | .lst _ _, _, f, _ => nomatch f
  | .scr _, _, f, _ => nomatch f
  | .nst _, _, f, _ => nomatch f
  | .ntp _, _, f, _ => nomatch f
  | .dct _ _ _, _, f, _ => nomatch f
  | .ndc _ _, _, f, _ => nomatch f
  | .obj _ _ _, _, f, _ => nomatch f
  | .exc _, _, f, _ => nomatch f
  | .dead, _, f, _ => nomatch f
theorem RFs.thin {D : Dn} {G G' : Hp} (h : ∀ a vs, SqT D.K G a vs → SqT D.K G' a vs) : ∀ (ws : List W) (vs : List V), flats ws = true → RFs D G ws vs → RFs D G' ws vs
  | [], _, _, r => r
  | w :: ws, _, f, r => by
    obtain ⟨v, us, rfl, r1, r2⟩ := r
    have f' : w.flat = true ∧ flats ws = true := Bool.and_eq_true_iff.mp f
    exact ⟨v, us, rfl, RF.thin h w v f'.1 r1, RFs.thin h ws us f'.2 r2⟩
end
theorem W.flat_frz : ∀ {w : W}, w.flat = true → w.frz = true
  | .non, _ => rfl
  | .bl _, _ => rfl
  | .int _, _ => rfl
  | .str _, _ => rfl
  | .tup _, _ => rfl
open Classical in
/-- what is frozen, and the owned lists as they stand -/
noncomputable def lentH (G H : Hp) (L : List Addr) : Hp := fun a => match G a with
  | some o => some o
  | none => if a ∈ L then H a else none
/-! ### frozen through and through -/
mutual
def W.fzD : W → W
  | .lst _ ws => .lst false ws
  | .nst ws => .lst false (fzDs ws)
  | .ntp ws => .tup (fzDs ws)
  | w => w
def fzDs : List W → List W
  | [] => []
  | w :: ws => w.fzD :: fzDs ws
end
mutual
def W.fzOk : W → Bool
  | .lst _ _ => true
  | .nst ws => fzOks ws
  | .ntp ws => fzOks ws
  | w => w.frz
def fzOks : List W → Bool
  | [] => true
  | w :: ws => w.fzOk && fzOks ws
end
theorem fzDs_map : ∀ ws : List W, fzDs ws = ws.map W.fzD
  | [] => rfl
  | w :: ws => by rw [fzDs, List.map_cons, fzDs_map ws]
theorem lent_mono {G H : Hp} {S : List Addr} : Sub G (lentH G H S) := fun a o h => by unfold lentH; rw [h]
theorem lent_own {G H : Hp} {S : List Addr} {a : Addr} (hs : a ∈ S) (g : G a = none) : lentH G H S a = H a := by
  unfold lentH
  rw [g]
  show (if a ∈ S then H a else none) = H a
  rw [if_pos hs]
mutual
theorem RO.deep {D : Dn} {G H : Hp} {S : List Addr} : ∀ (w : W) (v : V) (O : List Addr), w.fzOk = true → RO D G H w v O → (∀ a ∈ O, a ∈ S ∧ G a = none) → RF D (lentH G H S) w.fzD v
  | .lst true ws, v, O, _, h, k => by
    obtain ⟨a, vs, rfl, rfl, h1, h2⟩ := h
    obtain ⟨k1, k2⟩ := k a List.mem_cons_self
    exact ⟨a, vs, rfl, by rw [lent_own k1 k2]; exact h1, RFs.mono lent_mono _ _ h2⟩
  | .nst ws, v, O, f, h, k => by
    obtain ⟨a, vs, O', rfl, rfl, h1, h2⟩ := h
    obtain ⟨k1, k2⟩ := k a List.mem_cons_self
    exact ⟨a, vs, rfl, by rw [lent_own k1 k2]; exact h1, ROs.deep ws vs O' f h2 fun b hb => k b (List.mem_cons_of_mem _ hb)⟩
  | .ntp ws, v, O, f, h, k => by
    obtain ⟨a, vs, rfl, h1, h2⟩ := h
    exact ⟨a, vs, rfl, lent_mono.sqT h1, ROs.deep ws vs O f h2 k⟩
  | .lst false ws, v, O, _, h, k => RF.mono lent_mono (.lst false ws) v h.2
  | .non, v, O, _, h, k => RF.mono lent_mono .non v h.2
  | .bl b, v, O, _, h, k => RF.mono lent_mono (.bl b) v h.2
  | .int i, v, O, _, h, k => RF.mono lent_mono (.int i) v h.2
  | .str i, v, O, _, h, k => RF.mono lent_mono (.str i) v h.2
  | .tup ws, v, O, _, h, k => RF.mono lent_mono (.tup ws) v h.2
  | .scr ws, v, O, _, h, k => RF.mono lent_mono (.scr ws) v h.2
  | .dead, _, _, f, _, _ => nomatch f
  | .dct _ _ _, _, _, f, _, _ => nomatch f
  | .ndc _ _, _, _, f, _, _ => nomatch f
  | .obj _ _ _, _, _, f, _, _ => nomatch f
  | .exc _, _, _, f, _, _ => nomatch f
theorem ROs.deep {D : Dn} {G H : Hp} {S : List Addr} : ∀ (ws : List W) (vs : List V) (O : List Addr), fzOks ws = true → ROs D G H ws vs O → (∀ a ∈ O, a ∈ S ∧ G a = none) → RFs D (lentH G H S) (fzDs ws) vs
  | [], _, _, _, h, _ => h.1
  | w :: ws, _, _, f, h, k => by
    obtain ⟨v, r, O1, O2, rfl, rfl, h1, h2⟩ := h
    have f' : w.fzOk = true ∧ fzOks ws = true := Bool.and_eq_true_iff.mp f
    exact ⟨v, r, rfl, RO.deep w v O1 f'.1 h1 fun a ha => k a (List.mem_append_left _ ha), ROs.deep ws r O2 f'.2 h2 fun a ha => k a (List.mem_append_right _ ha)⟩
end
/-- the arguments, owned lists (and errors) lent -/
def lendA : List W → List AV → Option (List W)
  | _, [] => some []
  | env, .v w :: as => (lendA env as).map (w :: ·)
  | env, .io i :: as => match env[i]? with
    | some (.lst _ xs) => (lendA env as).map (.lst false xs :: ·)
    | some (.exc c) => (lendA env as).map (.exc c :: ·)
    | some (.nst xs) => if fzOks xs = true then (lendA env as).map (.lst false (fzDs xs) :: ·) else none
    | some (.ntp xs) => if fzOks xs = true then (lendA env as).map (.tup (fzDs xs) :: ·) else none
    | some w => if w.frz = true then (lendA env as).map (w :: ·) else none
    | none => none
def mCallL (g : Fn) (n : Nat) (m : Sm (List AV)) : Sm W := Sm.bind m fun as env => if as.length = n then match lendA env as with
  | none => .bad
  | some ws => match g ws with
    | .ok w _ => if w.flat = true then .ok w env else .bad
    | .ex c _ => .ex c env
    | .bad => .bad
  else .bad
theorem lendA_ok {D : Dn} {G H : Hp} {σ : L2.St} {env : List W} {Os : List (List Addr)} (s : StOk D G H env σ Os) : ∀ {as : List AV} {vs : List V} {ws : List W}, AVs D G σ as vs → lendA env as = some ws → ROs D (lentH G H Os.flatten) H ws vs []
  | [], vs, ws, h, e => by
    cases e
    exact ⟨h, rfl⟩
  | .v w :: as, vs, ws, h, e => by
    obtain ⟨x, r, rfl, h1, h2⟩ := h
    have e' : (lendA env as).map (w :: ·) = some ws := e
    cases e2 : lendA env as with
    | none => rw [e2] at e'; cases e'
    | some us =>
      rw [e2] at e'
      cases e'
      have mono : Sub G (lentH G H Os.flatten) := fun a o h => by unfold lentH; rw [h]
      exact ⟨x, r, [], [], rfl, rfl, RO.ofF (RF.mono mono _ _ h1), lendA_ok s h2 e2⟩
  | .io i :: as, vs, ws, h, e => by
    obtain ⟨x, r, rfl, h1, h2⟩ := h
    have mono : Sub G (lentH G H Os.flatten) := fun a o h => by unfold lentH; rw [h]
    cases e1 : env[i]? with
    | none => simp only [lendA, e1] at e; cases e
    | some w =>
      obtain ⟨sv, O, g1, g2, g3⟩ := s.sl.at e1
      rw [h1] at g1
      cases g1
      have fin : ∀ {w' : W}, RO D (lentH G H Os.flatten) H w' x [] → (lendA env as).map (w' :: ·) = some ws → ROs D (lentH G H Os.flatten) H ws (x :: r) [] := fun {w'} ro e' => by
        cases e2 : lendA env as with
        | none => rw [e2] at e'; cases e'
        | some us =>
          rw [e2] at e'
          cases e'
          exact ⟨x, r, [], [], rfl, rfl, ro, lendA_ok s h2 e2⟩
      have plain : w.frz = true → RO D (lentH G H Os.flatten) H w x [] := fun hf => by
        rcases g3 with ⟨v, ev, ro⟩ | ⟨z, _⟩
        · cases ev
          exact RO.ofF (RF.mono mono _ _ (ro.toF hf).2)
        · rw [z] at hf; cases hf
      cases w with
      | lst b xs =>
        simp only [lendA, e1] at e
        rcases g3 with ⟨v, ev, ro⟩ | ⟨z, _⟩
        · cases ev
          cases b with
          | false => exact fin (plain rfl) e
          | true =>
            obtain ⟨a, us, rfl, rfl, k1, k2⟩ := ro
            have ha : a ∈ Os.flatten := List.mem_flatten.mpr ⟨_, List.mem_of_getElem? g2, List.mem_cons_self⟩
            have hl : lentH G H Os.flatten a = some (.lst us) := by
              unfold lentH
              rw [s.gn a ha]
              show (if a ∈ Os.flatten then H a else none) = _
              rw [if_pos ha, k1]
            exact fin (w' := .lst false xs) (show RO D (lentH G H Os.flatten) H (.lst false xs) (.ref a) [] from ⟨rfl, a, us, rfl, hl, RFs.mono mono _ _ k2⟩) e
        · cases z
      | exc c =>
        simp only [lendA, e1] at e
        rcases g3 with ⟨v, ev, ro⟩ | ⟨z, _⟩
        · cases ev
          obtain ⟨rfl, a, rfl, k1⟩ := ro
          exact fin (w' := .exc c) (show RO D (lentH G H Os.flatten) H (.exc c) (.ref a) [] from ⟨rfl, a, rfl, mono _ _ k1⟩) e
        · cases z
      | non => simp only [lendA, e1, W.frz, if_true] at e; exact fin (plain rfl) e
      | bl _ => simp only [lendA, e1, W.frz, if_true] at e; exact fin (plain rfl) e
      | int _ => simp only [lendA, e1, W.frz, if_true] at e; exact fin (plain rfl) e
      | str _ => simp only [lendA, e1, W.frz, if_true] at e; exact fin (plain rfl) e
      | tup _ => simp only [lendA, e1, W.frz, if_true] at e; exact fin (plain rfl) e
      | scr _ => simp only [lendA, e1, W.frz, if_true] at e; exact fin (plain rfl) e
      | dct b ks xs =>
        simp only [lendA, e1, W.frz, Bool.false_eq_true, if_false] at e; cases e
      | dead => simp only [lendA, e1, W.frz, Bool.false_eq_true, if_false] at e; cases e
      | nst xs =>
        simp only [lendA, e1] at e
        by_cases hf : fzOks xs = true
        · rw [if_pos hf] at e
          rcases g3 with ⟨v, ev, ro⟩ | ⟨z, _⟩
          · cases ev
            have rf := RO.deep (S := Os.flatten) (.nst xs) x O hf ro fun a ha => ⟨List.mem_flatten.mpr ⟨_, List.mem_of_getElem? g2, ha⟩, s.gn a (List.mem_flatten.mpr ⟨_, List.mem_of_getElem? g2, ha⟩)⟩
            exact fin (w' := .lst false (fzDs xs)) (RO.ofF (w := .lst false (fzDs xs)) rf) e
          · cases z
        · rw [if_neg hf] at e; cases e
      | ntp xs =>
        simp only [lendA, e1] at e
        by_cases hf : fzOks xs = true
        · rw [if_pos hf] at e
          rcases g3 with ⟨v, ev, ro⟩ | ⟨z, _⟩
          · cases ev
            have rf := RO.deep (S := Os.flatten) (.ntp xs) x O hf ro fun a ha => ⟨List.mem_flatten.mpr ⟨_, List.mem_of_getElem? g2, ha⟩, s.gn a (List.mem_flatten.mpr ⟨_, List.mem_of_getElem? g2, ha⟩)⟩
            exact fin (w' := .tup (fzDs xs)) (RO.ofF (w := .tup (fzDs xs)) rf) e
          · cases z
        · rw [if_neg hf] at e; cases e
      | ndc _ _ => simp only [lendA, e1, W.frz, Bool.false_eq_true, if_false] at e; cases e
      | obj _ _ _ => simp only [lendA, e1, W.frz, Bool.false_eq_true, if_false] at e; cases e
theorem sub_lent {G H : Hp} {L : List Addr} (s : Sub G H) : Sub (lentH G H L) H := fun a o h => by
  unfold lentH at h
  cases e : G a with
  | some x =>
    rw [e] at h
    cases h
    exact s a _ e
  | none =>
    rw [e] at h
    have h' : (if a ∈ L then H a else none) = some o := h
    by_cases hm : a ∈ L
    · rw [if_pos hm] at h'; exact h'
    · rw [if_neg hm] at h'; cases h'
/-- behind the call, the lent lists are owned again -/
theorem unlent {D : Dn} {G H G' H' : Hp} {env : List W} {σ : L2.St} {Os : List (List Addr)} (s : StOk D G H env σ Os) (nt : ∀ a ∈ Os.flatten, ∀ vs, H a ≠ some (.tup vs) ∧ ∀ o, H a ≠ some (.frz o (.tup vs))) (sub : Sub G' H') (t : Step (lentH G H Os.flatten) H [] G' H' []) :
    ∃ G2, StOk D G2 H' env σ Os ∧ Step G H [] G2 H' [] ∧ ∀ (w : W) (v : V), w.flat = true → RF D G' w v → RF D G2 w v := by
  let G2 : Hp := fun a => if a ∈ Os.flatten then none else G' a
  have g2 : ∀ a, a ∉ Os.flatten → G2 a = G' a := fun a h => if_neg h
  have g0 : ∀ a, a ∈ Os.flatten → G2 a = none := fun a h => if_pos h
  have mono0 : Sub G (lentH G H Os.flatten) := fun a o h => by unfold lentH; rw [h]
  have st : Step G H [] G2 H' [] := by
    refine ⟨fun a o h => ?_, t.keep, fun a o h hn nt g => ?_, fun _ z => nomatch z⟩
    · have na : a ∉ Os.flatten := fun z => by rw [s.gn a z] at h; cases h
      rw [g2 a na]; exact t.mono a o (mono0 a o h)
    · by_cases ha : a ∈ Os.flatten
      · exact g0 a ha
      · rw [g2 a ha]
        refine t.gnew a o h hn nt ?_
        unfold lentH
        rw [g]
        show (if a ∈ Os.flatten then H a else none) = none
        rw [if_neg ha]
  have sub2 : Sub G2 H' := fun a o h => by
    by_cases ha : a ∈ Os.flatten
    · rw [g0 a ha] at h; cases h
    · rw [g2 a ha] at h; exact sub a o h
  refine ⟨G2, s.step st sub2, st, fun w v f r => RF.thin (fun a vs q => ?_) w v f r⟩
  rcases q with q | q
  · refine .inl ?_
    by_cases ha : a ∈ Os.flatten
    · exfalso
      obtain ⟨o, ho⟩ := s.there a ha
      have hk := t.keep a o ho (fun z => nomatch z)
      obtain ⟨n1, n2⟩ := nt a ha vs
      rcases q with q | ⟨ob, q⟩
      · have z := sub _ _ q
        rw [hk] at z
        rw [Option.some.inj z] at ho
        exact n1 ho
      · have z := sub _ _ q
        rw [hk] at z
        rw [Option.some.inj z] at ho
        exact n2 ob ho
    · rcases q with q | ⟨ob, q⟩
      · exact .inl (by rw [g2 a ha]; exact q)
      · exact .inr ⟨ob, by rw [g2 a ha]; exact q⟩
  · exact .inr q
mutual
theorem RO.noT {D : Dn} {G H : Hp} : ∀ (w : W) (v : V) (O : List Addr), RO D G H w v O → ∀ a ∈ O, ∀ vs, H a ≠ some (.tup vs) ∧ ∀ o, H a ≠ some (.frz o (.tup vs))
  | .dead, _, _, h, _, ha, _ => by subst h; cases ha
  | .lst true ws, v, O, h, b, hb, vs' => by
    obtain ⟨a, vs, rfl, rfl, h1, h2⟩ := h
    rw [List.mem_singleton.mp hb, h1]; exact ⟨fun z => (nomatch z), fun _ z => (nomatch z)⟩
  | .nst ws, v, O, h, b, hb, vs' => by
    obtain ⟨a, vs, O', rfl, rfl, h1, h2⟩ := h
    rcases List.mem_cons.mp hb with e | hb
    · rw [e, h1]; exact ⟨fun z => (nomatch z), fun _ z => (nomatch z)⟩
    · exact ROs.noT ws vs O' h2 b hb vs'
  | .ntp ws, v, O, h, b, hb, vs' => by
    obtain ⟨a, vs, rfl, h1, h2⟩ := h
    exact ROs.noT ws vs O h2 b hb vs'
  | .dct true ks ws, v, O, h, b, hb, vs' => by
    obtain ⟨a, vs, rfl, rfl, h1, h2⟩ := h
    obtain ⟨o, e, i⟩ := h1.is
    rw [List.mem_singleton.mp hb, e]; exact ⟨fun z => (by cases z; cases i), fun _ z => (by cases z; cases i)⟩
  | .ndc ks ws, v, O, h, b, hb, vs' => by
    obtain ⟨a, vs, O', rfl, rfl, h1, h2⟩ := h
    rcases List.mem_cons.mp hb with e | hb
    · obtain ⟨o, e', i⟩ := h1.is
      rw [e, e']; exact ⟨fun z => (by cases z; cases i), fun _ z => (by cases z; cases i)⟩
    · exact ROs.noT ws vs O' h2 b hb vs'
  | .obj c fs ws, v, O, h, b, hb, vs' => by
    obtain ⟨a, dx, vs, O', rfl, rfl, hl, h1, h2⟩ := h
    rcases List.mem_cons.mp hb with e | hb
    · rw [e, h1]; exact ⟨fun z => (nomatch z), fun _ z => (nomatch z)⟩
    · exact ROs.noT ws vs O' h2 b hb vs'
  | .non, _, _, h, _, ha, _ => by rw [h.1] at ha; cases ha
  | .bl _, _, _, h, _, ha, _ => by rw [h.1] at ha; cases ha
  | .int _, _, _, h, _, ha, _ => by rw [h.1] at ha; cases ha
  | .str _, _, _, h, _, ha, _ => by rw [h.1] at ha; cases ha
  | .tup _, _, _, h, _, ha, _ => by rw [h.1] at ha; cases ha
  | .lst false _, _, _, h, _, ha, _ => by rw [h.1] at ha; cases ha
  | .scr _, _, _, h, _, ha, _ => by rw [h.1] at ha; cases ha
  | .dct false _ _, _, _, h, _, ha, _ => by rw [h.1] at ha; cases ha
  | .exc _, _, _, h, _, ha, _ => by rw [h.1] at ha; cases ha
theorem ROs.noT {D : Dn} {G H : Hp} : ∀ (ws : List W) (vs : List V) (O : List Addr), ROs D G H ws vs O → ∀ a ∈ O, ∀ vs, H a ≠ some (.tup vs) ∧ ∀ o, H a ≠ some (.frz o (.tup vs))
  | [], _, _, h, _, ha, _ => by rw [h.2] at ha; cases ha
  | w :: ws, _, _, h, b, hb, vs' => by
    obtain ⟨v, r, O1, O2, rfl, rfl, h1, h2⟩ := h
    rcases List.mem_append.mp hb with hb | hb
    · exact RO.noT w v O1 h1 b hb vs'
    · exact ROs.noT ws r O2 h2 b hb vs'
end
theorem Sl.noT {D : Dn} {G H : Hp} : ∀ {env : List W} {σ : L2.St} {Os : List (List Addr)}, Sl D G H env σ Os → ∀ a ∈ Os.flatten, ∀ vs, H a ≠ some (.tup vs) ∧ ∀ o, H a ≠ some (.frz o (.tup vs))
  | [], _, _, h, a, ha, _ => by rw [h.2] at ha; cases ha
  | w :: env, _, _, h, a, ha, vs => by
    obtain ⟨s, σ', O, Os', rfl, rfl, h1, h2⟩ := h
    rw [List.flatten_cons] at ha
    rcases List.mem_append.mp ha with ha | ha
    · rcases h1 with ⟨v, _, r⟩ | ⟨_, e⟩
      · exact RO.noT w v O r a ha vs
      · rw [e] at ha; cases ha
    · exact Sl.noT h2 a ha vs
section
variable {Z : Zt} {x : Str} {n k : Nat} {g : Fn} {e : Expr} {es : List Expr} {p : Bool} {p1 p2 : Pos}
theorem me_callL {m : Sm (List AV)} (F : FnZ Z x n k g) (hr : Room k Z.X.A) (tk : Takes Z.X Z.W) (ha : MAr Z (e :: es) m p) (hg : Gl Z.X x) (hdb : (x == ("__debug__" : Str)) = false := by decide)
    (he : starEach (e :: es) Z.X.env = (false, eval e Z.X.env) :: starEach es Z.X.env := by rfl) (hpl : (backTo p2 (starEach es Z.X.env)).any (·.1) = false := by rfl)
    : ME Z (.Call (.Name x p1) (e :: es) [] p2) (mCallL g n m) p true := by
  obtain ⟨f, fd, ps, F, hm, hk, hb⟩ := F
  refine pe_imp (pe_callS F hr hg hm hk hb (fun σ => passAt tk σ) ha hdb he hpl) fun σ H Q q => ?_
  obtain ⟨env, G, Os, s, q⟩ := q
  refine ⟨env, G, Os, s, ?_⟩
  unfold mCallL Sm.bind at q
  cases e1 : m env with
  | bad => rw [e1] at q; exact q
  | ex c env1 => rw [e1] at q; exact q
  | ok as env1 =>
    rw [e1] at q
    intro vs G1 H1 Os1 s1 r1 t1
    by_cases hl : as.length = n
    · simp only [if_pos hl] at q
      cases e2 : lendA env1 as with
      | none => simp only [e2] at q
      | some ws =>
        simp only [e2] at q
        refine ⟨by rw [← r1.len]; exact hl, ws, lentH G1 H1 Os1.flatten, [], sub_lent s1.sub, lendA_ok s1 r1 e2, List.nodup_nil, fun _ z => (nomatch z), ?_⟩
        cases e3 : g ws with
        | bad => simp only [e3] at q
        | ex c ws' =>
          simp only [e3] at q
          intro G' H' O' sub _ _ _ st
          obtain ⟨G2, s2, st2, _⟩ := unlent s1 s1.sl.noT sub (st.less fun _ z => nomatch z)
          exact q G2 H' Os1 s2 (t1.ofP (σ := σ) st2)
        | ok w ws' =>
          simp only [e3] at q
          intro v G' H' O' Ow sub _ r nd gn st
          by_cases hf : w.flat = true
          · simp only [if_pos hf] at q
            obtain ⟨rfl, rf⟩ := r.toF (W.flat_frz hf)
            obtain ⟨G2, s2, st2, th⟩ := unlent s1 s1.sl.noT sub (st.less fun _ z => nomatch z)
            exact q v G2 H' Os1 [] s2 (RO.ofF (th w v hf rf)) (OwnK.nil s2) (t1.ofP (σ := σ) st2)
          · simp only [if_neg hf] at q
    · simp only [if_neg hl] at q
end
end Ev

namespace Ev
open PySem PySem.Spec L2

/-! ### isinstance -/
/-- of what built-in kind a value is -/
def W.kind : W → Option String
  | .non => some "NoneType"
  | .bl _ => some "bool"
  | .int _ => some "int"
  | .str _ => some "str"
  | .tup _ => some "tuple"
  | .lst _ _ => some "list"
  | .scr _ => some "list"
  | .nst _ => some "list"
  | .ntp _ => some "tuple"
  | _ => none
/-- the second argument: some classes, by their values -/
structure ClsArg (X : Cx) (e : Expr) (cs : List V) (us : List Value) (one : Bool) : Prop where
  run : if one = true then ∃ c u, cs = [c] ∧ us = [u] ∧ ClsV c u ∧ PE X e (tC c) else ∃ t, PE X e t ∧ Paired ClsV cs us ∧ ∀ σ H Q, (∀ p, H p = none → Q (.ref p) (upd H p (.tup cs))) → t σ H Q
theorem ca_ty {X : Cx} {T : String} {x : Str} {pos : Pos} (hg : Gl X x) (hm : X.mg x = none) (hv : bootBuiltins x = some (.type T)) (hn : x ≠ "__name__" := by decide) (hd : (x == ("__debug__" : Str)) = false := by decide) : ClsArg X (.Name x pos) [.ty T] [.type T] true :=
  ⟨⟨_, _, rfl, rfl, .ty T, pe_bltn hg hm hv rfl hn hd⟩⟩
theorem ca_own {X : Cx} {C : Addr} {x : Str} {pos : Pos} (hg : Gl X x) (hm : X.mg x = some (.ref C)) (hd : (x == ("__debug__" : Str)) = false := by decide) : ClsArg X (.Name x pos) [.ref C] [.ref C] true :=
  ⟨⟨_, _, rfl, rfl, .own C, pe_glob hg hm rfl hd⟩⟩
/-- names of classes in a tuple -/
def ClsArgs (X : Cx) (es : List Expr) (cs : List V) (us : List Value) : Prop := ∃ t, PA X es t ∧ Paired ClsV cs us ∧ ∀ σ H (Q : List V → Hp → Prop), Q cs H → t σ H Q
theorem cas_nil {X : Cx} : ClsArgs X [] [] [] := ⟨_, pa_nil, .nil, fun _ _ _ q => q⟩
theorem cas_cons {X : Cx} {e : Expr} {es : List Expr} {c : V} {u : Value} {cs : List V} {us : List Value} (h : ClsArg X e [c] [u] true) (hr : ClsArgs X es cs us) (hs : starEach (e :: es) X.env = (false, eval e X.env) :: starEach es X.env := by rfl) : ClsArgs X (e :: es) (c :: cs) (u :: us) := by
  obtain ⟨c', u', e1, e2, k, pe⟩ := h.run
  cases e1
  cases e2
  obtain ⟨t, pa, ps, i⟩ := hr
  exact ⟨_, pa_cons pe pa hs, .cons k ps, fun σ H Q q => i σ H _ q⟩
theorem ca_tup {X : Cx} {es : List Expr} {cs : List V} {us : List Value} {k : Nat} {pos : Pos} (h : ClsArgs X es cs us) (hl : cs.length ≤ sizeLine := by decide) : ClsArg X (.Tuple es k pos) cs us false := by
  obtain ⟨t, pa, ps, i⟩ := h
  exact ⟨⟨_, pe_tup pa, ps, fun σ H Q q => i σ H _ ⟨hl, q⟩⟩⟩
def isAns (K : PySem.W.Frag) (t : Value) (us : List Value) (one : Bool) : Option Bool := match one, us with
  | true, [u] => PySem.W.kitOne K t u
  | false, us => PySem.W.kitAny K t us
  | _, _ => none
/-- built-in kinds against built-in types: by the names -/
def kitBs (a : String) : List String → Option Bool
  | [] => some false
  | b :: bs => match kitB a b with
    | some true => some true
    | some false => kitBs a bs
    | none => none
theorem kitBs_any {K : PySem.W.Frag} {a : String} : ∀ {bs : List String} {r : Bool}, kitBs a bs = some r → PySem.W.kitAny K (.type a) (bs.map Value.type) = some r
  | [], r, h => h
  | b :: bs, r, h => by
    unfold kitBs at h
    cases e : kitB a b with
    | none => rw [e] at h; cases h
    | some x =>
      rw [e] at h
      refine kitAny_cons (kit_ty e) (fun z => ?_) fun z => ?_
      · subst z; exact kitBs_any h
      · subst z; exact (Option.some.inj h).symm
def isiW (tys : List String) (w : W) : Option W := w.kind.bind fun k => (kitBs k tys).map .bl
theorem RO.tyx {D : Dn} {G H : Hp} {w : W} {v : V} {O : List Addr} {k : String} (s : Sub G H) (r : RO D G H w v O) (e : w.kind = some k) : TyX D.K H v (.type k) := by
  cases w with
  | non => cases e; obtain ⟨_, rfl⟩ := r; exact .base .non
  | bl b => cases e; obtain ⟨_, rfl⟩ := r; exact .base (.bl b)
  | int i => cases e; obtain ⟨_, rfl⟩ := r; exact .base (.int i)
  | str x => cases e; obtain ⟨_, rfl⟩ := r; exact .base (.str x)
  | tup ws =>
    cases e
    obtain ⟨_, a, vs, rfl, h1, _⟩ := r
    rcases s.sqT h1 with (h | ⟨o, h⟩) | ⟨o, its, n, h, hc, _⟩
    · exact .base (.tup h)
    · exact .fTuple h
    · exact .kTuple h hc
  | lst b ws =>
    cases e
    obtain ⟨a, vs, rfl, h1, _⟩ := r.lstAt s
    exact .base (.lst h1)
  | scr ws =>
    cases e
    obtain ⟨_, a, vs, rfl, h1, _⟩ := r
    rcases s.sqL h1 with (h | ⟨o, h⟩) | ⟨o, its, n, h, hc, _⟩
    · exact .base (.lst h)
    · exact .base (.frz h)
    · exact .kList h hc
  | nst ws =>
    cases e
    obtain ⟨a, vs, O', rfl, rfl, h1, _⟩ := r
    exact .base (.lst h1)
  | ntp ws =>
    cases e
    obtain ⟨a, vs, rfl, h1, _⟩ := r
    rcases s.sqT h1 with (h | ⟨o, h⟩) | ⟨o, its, n, h, hc, _⟩
    · exact .base (.tup h)
    · exact .fTuple h
    · exact .kTuple h hc
  | _ => cases e
theorem tyx_new {K : PySem.W.Frag} {H : Hp} {v : V} {t : Value} {p : Addr} {o : HO} (n : H p = none) (h : TyX K H v t) : TyX K (upd H p o) v t := by
  have k : ∀ {a : Addr} {x : HO}, H a = some x → upd H p o a = some x := fun {a x} e => sub_new n a x e
  cases h with
  | base h =>
    refine .base ?_
    cases h with
    | non => exact .non
    | bl b => exact .bl b
    | int i => exact .int i
    | str x => exact .str x
    | flt x => exact .flt x
    | lst e => exact .lst (k e)
    | frz e => exact .frz (k e)
    | tup e => exact .tup (k e)
    | dK e => exact .dK (k e)
    | dT e => exact .dT (k e)
    | ins e a b c d f => exact .ins (k e) a b c d f
  | byt b => exact .byt b
  | set e => exact .set (k e)
  | kList e c => exact .kList e c
  | kTuple e c => exact .kTuple e c
  | kDict e c => exact .kDict e c
  | fTuple e => exact .fTuple (k e)
  | fDict e => exact .fDict (k e)
/-- an error that is held -/
theorem call_isX {X : Cx} {D a : Addr} (C : ExcC X.K D) : CallR X (.builtin "isinstance") (fun xs H Q => ∃ (c : V) (cv : Value) (b : Bool), xs = [.ref a, c] ∧ H a = some (ExC D a) ∧ ClsV c cv ∧ PySem.W.kitOne X.K (.ref D) cv = some b ∧ Q (.bl b) H) := by
  intro pins s σ H xs us Q I r h
  obtain ⟨c, cv, b, rfl, ha, hc, e, q⟩ := h
  cases r with
  | cons rx rr =>
    cases rr with
    | cons rt rr =>
      cases rr
      cases rx
      have ec := hc.eq rt
      subst ec
      obtain ⟨⟨oe, flds, hget, hz, hd⟩, _⟩ := I.hok a _ ha
      have J : PySem.W.InstAt s.heap a oe D none := by
        obtain ⟨oc, od, oda, osl⟩ := oe
        obtain ⟨h1, h2⟩ := hz
        dsimp only at h1 h2 hd
        subst h1 h2 hd
        exact ⟨hget, rfl, rfl, trivial⟩
      exact PySem.W.kia_one (PySem.W.handS_kitx_exc C.hg C.hk C.hs C.hd C.ha C.hn C.ht C.hm) I.kIn J e (fun z => nomatch z) fun tk => ⟨.bl b, H, I.kept (t' := tk) fun _ _ z => z, rfl, q⟩
theorem call_isXT {X : Cx} {D a : Addr} (C : ExcC X.K D) : CallR X (.builtin "isinstance") (fun xs H Q => ∃ (tp : Addr) (cs : List V) (us : List Value) (b : Bool), xs = [.ref a, .ref tp] ∧ H a = some (ExC D a) ∧ H tp = some (.tup cs) ∧ Paired ClsV cs us ∧ PySem.W.kitAny X.K (.ref D) us = some b ∧ Q (.bl b) H) := by
  intro pins s σ H xs us Q I r h
  obtain ⟨tp, cs, ws, b, rfl, ha, ht, hc, e, q⟩ := h
  cases r with
  | cons rx rr =>
    cases rr with
    | cons rt rr =>
      cases rr
      cases rx
      cases rt
      obtain ⟨⟨oe, flds, hget, hz, hd⟩, _⟩ := I.hok a _ ha
      have J : PySem.W.InstAt s.heap a oe D none := by
        obtain ⟨oc, od, oda, osl⟩ := oe
        obtain ⟨h1, h2⟩ := hz
        dsimp only at h1 h2 hd
        subst h1 h2 hd
        exact ⟨hget, rfl, rfl, trivial⟩
      obtain ⟨_, its, rv, ot, hot, hcl, n, hdt⟩ := I.hok tp _ ht
      obtain ⟨oc, od, oda, osl⟩ := ot
      dsimp only at hcl hdt
      subst hcl hdt
      rw [ClsV.all hc rv] at *
      exact PySem.W.kia_tup (PySem.W.handS_kitx_exc C.hg C.hk C.hs C.hd C.ha C.hn C.ht C.hm) I.kIn J hot e (fun z => nomatch z) fun tk => ⟨.bl b, H, I.kept (t' := tk) fun _ _ z => z, rfl, q⟩
section
variable {Z : Zt} {e c : Expr} {m : Sm W} {p k1 : Bool} {p1 p2 : Pos}
theorem me_is {cs : List V} {us : List Value} {one : Bool} {f : W → Option W} (ca : ClsArg Z.X c cs us one) (hm : Z.X.mg "isinstance" = none) (ha : ME Z e m p k1)
    (hf : ∀ (G H : Hp) (w : W) (v : V) (O : List Addr) (r : W), Sub G H → RO Z.D G H w v O → f w = some r → ∃ b, r = .bl b ∧ ((∃ t, (∀ p o, H p = none → TyX Z.X.K (upd H p o) v t) ∧ TyX Z.X.K H v t ∧ isAns Z.X.K t us one = some b) ∨ ∃ D a, v = .ref a ∧ H a = some (ExC D a) ∧ ExcC Z.X.K D ∧ isAns Z.X.K (.ref D) us one = some b))
    (hg : Gl Z.X "isinstance" := by rfl) (hs : starEach [e, c] Z.X.env = (false, eval e Z.X.env) :: starEach [c] Z.X.env := by rfl) (hs2 : starEach [c] Z.X.env = (false, eval c Z.X.env) :: starEach [] Z.X.env := by rfl) (hpl : (backTo p2 (starEach [c] Z.X.env)).any (·.1) = false := by rfl) :
    ME Z (.Call (.Name "isinstance" p1) [e, c] [] p2) (mUn f m) p true := by
  have boot : bootBuiltins "isinstance" = some (.builtin "isinstance") := PyProof.Rows.boot_isinstance
  cases one with
  | true =>
    obtain ⟨cv, u, rfl, rfl, k, pe⟩ := ca.run
    refine pe_imp (pe_callB cl_any hg hm boot (pa_cons ha (pa_cons pe pa_nil hs2) hs) (by decide) (by decide) hs hpl) fun σ H Q q => tx_un (r := fun x H1 Q => clAny Z.X (.builtin "isinstance") [x, cv] H1 Q) (fun G H w1 v1 O1 w Q s r e q => ?_) q
    obtain ⟨b, rfl, ⟨t, _, h1, h2⟩ | ⟨D, a, rfl, h1, h2, h3⟩⟩ := hf G H w1 v1 O1 w s r e
    · exact ⟨_, call_isi, v1, cv, t, u, b, rfl, k, h1, h2, q.bl s⟩
    · exact ⟨_, call_isX h2, cv, u, b, rfl, h1, k, h3, q.bl s⟩
  | false =>
    obtain ⟨t, pe, pr, i⟩ := ca.run
    refine pe_imp (pe_callB cl_any hg hm boot (pa_cons ha (pa_cons pe pa_nil hs2) hs) (by decide) (by decide) hs hpl) fun σ H Q q => ?_
    have z := tx_un (k := k1) (r := fun x H1 Q => ∀ tp, H1 tp = none → clAny Z.X (.builtin "isinstance") [x, .ref tp] (upd H1 tp (.tup cs)) Q) (fun G H w1 v1 O1 w Q s r e q tp ntp => ?_) q
    · obtain ⟨env, G, Os, st, z⟩ := z
      refine ⟨env, G, Os, st, ?_⟩
      revert z
      cases m env with
      | bad => exact id
      | ex c env1 => exact id
      | ok w env1 => exact fun z v G' H' Os' Ow a1 a2 a3 a4 => i σ H' _ fun tp ntp => z v G' H' Os' Ow a1 a2 a3 a4 tp ntp
    · obtain ⟨b, rfl, ⟨t, h0, h1, h2⟩ | ⟨D, a, rfl, h1, h2, h3⟩⟩ := hf G H w1 v1 O1 w s r e
      · refine ⟨_, call_isiT, v1, tp, cs, t, us, b, rfl, upd_same, pr, h0 tp _ ntp, h2, ?_⟩
        exact q _ G _ [] (sub_upd s ntp) ⟨rfl, rfl⟩ List.nodup_nil (fun _ z => nomatch z) ((step_own ntp).less fun _ z => nomatch z)
      · refine ⟨_, call_isXT h2, tp, cs, us, b, rfl, sub_new ntp _ _ h1, upd_same, pr, h3, ?_⟩
        exact q _ G _ [] (sub_upd s ntp) ⟨rfl, rfl⟩ List.nodup_nil (fun _ z => nomatch z) ((step_own ntp).less fun _ z => nomatch z)
/-- isinstance(e, T), isinstance(e, (T1, ..)) of built-in types -/
theorem me_isi (tys : List String) {cs : List V} {us : List Value} {one : Bool} (ca : ClsArg Z.X c cs us one) (hm : Z.X.mg "isinstance" = none) (ha : ME Z e m p k1) (hu : us = tys.map Value.type := by rfl) (ho : one = false ∨ tys.length = 1 := by decide)
    (hg : Gl Z.X "isinstance" := by rfl) (hs : starEach [e, c] Z.X.env = (false, eval e Z.X.env) :: starEach [c] Z.X.env := by rfl) (hs2 : starEach [c] Z.X.env = (false, eval c Z.X.env) :: starEach [] Z.X.env := by rfl) (hpl : (backTo p2 (starEach [c] Z.X.env)).any (·.1) = false := by rfl) :
    ME Z (.Call (.Name "isinstance" p1) [e, c] [] p2) (mUn (isiW tys) m) p true := me_is ca hm ha (fun G H w v O r s ro e => by
  unfold isiW at e
  cases hk : w.kind with
  | none => rw [hk] at e; cases e
  | some kd =>
    rw [hk, Option.bind_some] at e
    cases hb : kitBs kd tys with
    | none => rw [hb] at e; cases e
    | some b =>
      rw [hb] at e
      cases e
      have ty := ro.tyx s hk
      refine ⟨b, rfl, .inl ⟨_, fun q o n => tyx_new n ty, ty, ?_⟩⟩
      subst hu
      cases one with
      | false => exact kitBs_any hb
      | true =>
        rcases ho with z | z
        · cases z
        · match tys, z, hb with
          | [T], _, hb =>
            show PySem.W.kitOne _ _ _ = _
            unfold kitBs at hb
            cases h : kitB kd T with
            | none => rw [h] at hb; cases hb
            | some x =>
              rw [h] at hb
              cases x with
              | true => cases hb; exact kit_ty h
              | false => cases hb; exact kit_ty h) hg hs hs2 hpl
/-- isinstance of an error that is held; tab: by its class -/
def isxW (tab : Nat → Option Bool) : W → Option W
  | .exc c => (tab c).map .bl
  | _ => none
theorem me_isx (tab : Nat → Option Bool) {cs : List V} {us : List Value} {one : Bool} (ca : ClsArg Z.X c cs us one) (hm : Z.X.mg "isinstance" = none) (ht : ∀ c b, tab c = some b → ExcC Z.X.K (Z.CA c) ∧ isAns Z.X.K (.ref (Z.CA c)) us one = some b) (ha : ME Z e m p k1)
    (hg : Gl Z.X "isinstance" := by rfl) (hs : starEach [e, c] Z.X.env = (false, eval e Z.X.env) :: starEach [c] Z.X.env := by rfl) (hs2 : starEach [c] Z.X.env = (false, eval c Z.X.env) :: starEach [] Z.X.env := by rfl) (hpl : (backTo p2 (starEach [c] Z.X.env)).any (·.1) = false := by rfl) :
    ME Z (.Call (.Name "isinstance" p1) [e, c] [] p2) (mUn (isxW tab) m) p true := me_is ca hm ha (fun G H w v O r s ro e => by
  cases w with
  | exc c =>
    have e' : (tab c).map W.bl = some r := e
    cases hb : tab c with
    | none => rw [hb] at e'; cases e'
    | some b =>
      rw [hb] at e'
      cases e'
      obtain ⟨_, a, rfl, h1⟩ := ro
      obtain ⟨h2, h3⟩ := ht c b hb
      exact ⟨b, rfl, .inr ⟨_, a, rfl, s _ _ h1, h2, h3⟩⟩
  | _ => cases e) hg hs hs2 hpl
end
end Ev

namespace Ev
open PySem PySem.Spec L2

/-! ### a op b op c, all looking only -/
def mChain (f g : W → W → Option W) (m1 m2 m3 : Sm W) : Sm W := Sm.bind m1 fun w1 => Sm.bind m2 fun w2 => Sm.bind (lft ((f w1 w2).bind blW)) fun b => if b = true then Sm.bind m3 fun w3 => lft (g w2 w3) else Sm.ret (.bl false)
theorem tx_chain {D : Dn} {Wx : WX} {r r' : R2} {f g : W → W → Option W} {m1 m2 m3 : Sm W} {k1 k2 k3 : Bool} (o : RelS D r f) (o' : RelS D r' g) {σ : L2.St} {H : Hp} {Q : VK} (q : TX D Wx true true (mChain f g m1 m2 m3) σ H Q) :
    tChain r r' (TX D Wx true k1 m1) (TX D Wx true k2 m2) (TX D Wx true k3 m3) σ H Q := by
  obtain ⟨env, G, Os, s, q⟩ := q
  refine ⟨env, G, Os, s, ?_⟩
  unfold mChain Sm.bind at q
  cases e1 : m1 env with
  | bad => rw [e1] at q; exact q
  | ex c env1 => rw [e1] at q; exact q
  | ok w1 env1 =>
    rw [e1] at q
    intro v1 G1 H1 Os1 O1 s1 r1 o1 t1
    refine ⟨env1, G1, Os1, s1, ?_⟩
    cases e2 : m2 env1 with
    | bad => simp only [e2] at q
    | ex c env2 =>
      simp only [e2] at q
      exact fun G' H' Os' s' t => q G' H' Os' s' (t1.trans t)
    | ok w2 env2 =>
      simp only [e2] at q
      intro v2 G2 H2 Os2 O2 s2 r2 o2 t2
      have r1' := stay s1 r1 o1 t2 (by cases k1 <;> rfl)
      cases ef : f w1 w2 with
      | none => simp only [ef, Option.bind_none, lft] at q
      | some wb =>
        have key : ∃ b, wb = .bl b := by
          cases wb <;> first
            | exact ⟨_, rfl⟩
            | (exfalso; simp only [ef, Option.bind_some, blW, lft] at q; done)
        obtain ⟨b, rfl⟩ := key
        simp only [ef, Option.bind_some, blW, lft] at q
        refine o G2 H2 w1 w2 v1 v2 O1 O2 (.bl b) _ s2.sub r1' r2 ef fun v G3 H3 Ow sub ro nd gn st => ?_
        obtain ⟨rfl, rfl⟩ := ro
        have s3 := s2.step st sub
        have t3 : Stp true env G H Os env2 G3 H3 Os2 [] := by
          have z := (t1.trans t2).trans (Stp.grow true (env := env2) (Os := Os2) st)
          exact z
        refine ⟨b, rfl, ?_⟩
        cases b with
        | false =>
          rw [if_neg Bool.false_ne_true]
          simp only [Bool.false_eq_true, if_false, Sm.ret] at q
          exact q (.bl false) G3 H3 Os2 [] s3 ⟨rfl, rfl⟩ (OwnK.nil s3) t3
        | true =>
          rw [if_pos rfl]
          simp only [if_true] at q
          refine ⟨env2, G3, Os2, s3, ?_⟩
          cases e3 : m3 env2 with
          | bad => simp only [e3] at q
          | ex c env3 =>
            simp only [e3] at q
            exact fun G' H' Os' s' t => q G' H' Os' s' (t3.trans t)
          | ok w3 env3 =>
            simp only [e3] at q
            intro v4 G4 H4 Os4 O4 s4 r4 o4 t4
            cases eg : g w2 w3 with
            | none => simp only [eg] at q
            | some w =>
              simp only [eg] at q
              have r2' : RO D G4 H4 w2 v2 O2 := by
                refine stay s2 r2 o2 (p := true) (O2 := []) ?_ (by cases k2 <;> rfl) (env' := env3) (Os' := Os4)
                have z := (Stp.grow true (env := env2) (Os := Os2) st).trans t4
                exact z.less fun _ z => nomatch z
              exact o' G4 H4 w2 w3 v2 v4 O2 O4 w Q s4.sub r2' r4 eg (Ans.of (p := true) s4 (t3.trans t4) q)
theorem me_chain {Z : Zt} {op op' : CmpOp} {f g : W → W → Option W} {a b c : Expr} {m1 m2 m3 : Sm W} {k1 k2 k3 : Bool} {pos : Pos} (o : OpS Z (compareOp op) f) (o' : OpS Z (compareOp op') g) (ha : ME Z a m1 true k1) (hb : ME Z b m2 true k2) (hc : ME Z c m3 true k3)
    (hm : lastMarks [op, op'] [b, c] = false := by with_unfolding_all rfl) : ME Z (.Compare a [op, op'] [b, c] pos) (mChain f g m1 m2 m3) true true :=
  pe_imp (pe_chain op_any op_any ha hb hc hm) fun _ _ _ q => tx_chain o o' q
theorem mt_cmp {Z : Zt} {op : CmpOp} {f : W → W → Option W} {a b : Expr} {m1 m2 : Sm W} {p1 p2 k1 k2 : Bool} {pos : Pos} (o : OpS Z (compareOp op) f) (ha : ME Z a m1 p1 k1) (hb : ME Z b m2 p2 k2) (hm : behindInMarks op b = false := by first | exact nomark _ | rfl) :
    MT Z (.Compare a [op] [b] pos) (toB (mBin f (k1 || p2) m1 m2)) (p1 && p2) :=
  pt_imp (pt_cmpR op_any ha hb hm) fun _ _ _ h => tx_bin o (tt_val h)
theorem mt_chain {Z : Zt} {op op' : CmpOp} {f g : W → W → Option W} {a b c : Expr} {m1 m2 m3 : Sm W} {k1 k2 k3 : Bool} {pos : Pos} (o : OpS Z (compareOp op) f) (o' : OpS Z (compareOp op') g) (ha : ME Z a m1 true k1) (hb : ME Z b m2 true k2) (hc : ME Z c m3 true k3)
    (hm : lastMarks [op, op'] [b, c] = false := by with_unfolding_all rfl) : MT Z (.Compare a [op, op'] [b, c] pos) (toB (mChain f g m1 m2 m3)) true :=
  pt_imp (pt_chain op_any op_any ha hb hc hm) fun _ _ _ q => tx_chain o o' (tt_val q)
end Ev

namespace Ev
open PySem PySem.Spec L2

/-! ### the classes of the errors, the first one above all others -/
structure CF1 (K : PySem.W.Frag) (C : Addr) (x : Str) : Prop where
  ns : PySem.W.nsIn K mainGlobals x = some (some (.ref C))
  x : PySem.W.excIn K C [.type "ValueError", .type "Exception", .type "BaseException", .type "object"] "ValueError.__new__" = true
  k : PySem.W.keepIn K (.ref C) = true
  b : PySem.W.subIn K (.ref C) (.type "BaseException") = some true
  t : PySem.W.typeIn K (.ref C) = some (.type "type")
  v : PySem.W.subIn K (.ref C) (.type "ValueError") = some true
  e : ExcC K C
theorem CF1.i {K : PySem.W.Frag} {C : Addr} {x : Str} (q : CF1 K C x) : (PySem.W.clsIn K C).isSome = true := by
  obtain ⟨cd, h, _⟩ := PySem.W.any_some q.e.hd
  rw [h]
  rfl
structure CF (K : PySem.W.Frag) (names : List Str) (A : Nat → Addr) : Prop where
  one : ∀ c x, names[c]? = some x → CF1 K (A c) x
  sub : ∀ c d, c < names.length → d < names.length → PySem.W.subIn K (.ref (A c)) (.ref (A d)) = some (d == 0 || c == d)
section
variable {K : PySem.W.Frag} {names : List Str} {A : Nat → Addr}
theorem CF.clsT {h : Heap} {mg : Str → Option Value} (X : K.In h) (G : h.Ns mainGlobals mg) (F : CF K names A) {c : Nat} {x : Str} (e : names[c]? = some x) : ClsT K mg A x c :=
  have q := F.one c x e
  ⟨PySem.W.mg_of X G q.ns, q.x, q.k, q.b, q.t⟩
theorem CF.at (F : CF K names A) {c : Nat} (h : c < names.length) : ∃ x, CF1 K (A c) x := ⟨_, F.one c _ (List.getElem?_eq_getElem h)⟩
theorem CF.clsOf (F : CF K names A) {c d : Nat} (hc : c < names.length) (hd : d < names.length) : PySem.W.kitCls K (.ref (A c)) (.ref (A d)) = some (d == 0 || c == d) := by
  obtain ⟨x, q⟩ := F.at hd
  show (if ((PySem.W.clsIn K (A d)).isSome && PySem.W.typeIn K (.ref (A d)) == some (.type "type")) = true then PySem.W.subIn K (.ref (A c)) (.ref (A d)) else none) = _
  have e2 : ((PySem.W.clsIn K (A d)).isSome && PySem.W.typeIn K (.ref (A d)) == some (.type "type")) = true := by rw [q.i, q.t] <;> rfl
  rw [if_pos e2]
  exact F.sub c d hc hd
theorem CF.one_ (F : CF K names A) {c d : Nat} (hc : c < names.length) (hd : d < names.length) : PySem.W.kitOne K (.ref (A c)) (.ref (A d)) = some (d == 0 || c == d) := by
  unfold PySem.W.kitOne
  by_cases z : ((Value.ref (A c)) == (Value.ref (A d))) = true
  · rw [if_pos z]
    have e : A c = A d := Value.ref.inj (beq_iff_eq.mp z)
    have h1 := F.sub c d hc hd
    rw [← e, F.sub c c hc hc] at h1
    simp at h1
    have h2 : (d == 0 || c == d) = true := by simp [h1]
    rw [h2]
  · rw [if_neg z]
    exact F.clsOf hc hd
theorem CF.oneV (F : CF K names A) {c : Nat} (hc : c < names.length) : PySem.W.kitOne K (.ref (A c)) (.type "ValueError") = some true := by
  obtain ⟨x, q⟩ := F.at hc
  unfold PySem.W.kitOne
  rw [if_neg (by simp)]
  show (if PySem.W.kitMeta "ValueError" = true then PySem.W.subIn K (.ref (A c)) (.type "ValueError") else none) = _
  rw [if_pos (by decide +kernel)]
  exact q.v
theorem CF.exm (F : CF K names A) {c d : Nat} (hc : c < names.length) (hd : d < names.length) : PySem.W.exmOne K (.ref (A c)) (.ref (A d)) = some (d == 0 || c == d) := by
  obtain ⟨x, q⟩ := F.at hd
  unfold PySem.W.exmOne
  have e1 : (PySem.W.subIn K (.ref (A d)) (.type "BaseException") == some true) = true := by rw [q.b] <;> rfl
  rw [if_pos e1]
  exact F.clsOf hc hd
end
/-- what an isinstance names: none: ValueError; some d: the d-th class -/
def valU (A : Nat → Addr) : Option Nat → Value
  | none => .type "ValueError"
  | some d => .ref (A d)
def hitU (c : Nat) : Option Nat → Bool
  | none => true
  | some d => d == 0 || c == d
def tabU (us : List (Option Nat)) (n : Nat) (c : Nat) : Option Bool := if c < n then some (us.any (hitU c)) else none
def accU (d n : Nat) (c : Nat) : Option Bool := if c < n then some (d == 0 || c == d) else none
section
variable {K : PySem.W.Frag} {names : List Str} {A : Nat → Addr}
def okU (n : Nat) : Option Nat → Bool
  | none => true
  | some d => decide (d < n)
theorem CF.oneU (F : CF K names A) {c : Nat} (hc : c < names.length) : ∀ {u : Option Nat}, okU names.length u = true → PySem.W.kitOne K (.ref (A c)) (valU A u) = some (hitU c u)
  | none, _ => F.oneV hc
  | some _, h => F.one_ hc (of_decide_eq_true h)
theorem CF.anyU (F : CF K names A) {c : Nat} (hc : c < names.length) : ∀ {us : List (Option Nat)}, us.all (okU names.length) = true → PySem.W.kitAny K (.ref (A c)) (us.map (valU A)) = some (us.any (hitU c))
  | [], _ => rfl
  | u :: us, h => by
    rw [List.all_cons, Bool.and_eq_true] at h
    have h1 := F.oneU hc h.1
    have h2 := F.anyU hc h.2
    rw [List.map_cons, List.any_cons]
    unfold PySem.W.kitAny
    rw [h1]
    cases hitU c u with
    | true => rfl
    | false => exact h2
/-- what an isinstance wants of the classes -/
theorem CF.tab (us : List (Option Nat)) (one : Bool) {n : Nat} (F : CF K names A) (hn : names.length = n) (h1 : us.all (okU n) = true) (ho : one = false ∨ us.length = 1) : ∀ c b, tabU us n c = some b → ExcC K (A c) ∧ isAns K (.ref (A c)) (us.map (valU A)) one = some b := fun c b e => by
  subst hn
  unfold tabU at e
  by_cases hc : c < names.length
  · rw [if_pos hc] at e
    cases e
    obtain ⟨x, q⟩ := F.at hc
    refine ⟨q.e, ?_⟩
    cases one with
    | false => exact F.anyU hc h1
    | true =>
      rcases ho with z | z
      · cases z
      · match us, z, h1 with
        | [u], _, h1 =>
          show PySem.W.kitOne K (.ref (A c)) (valU A u) = _
          rw [List.all_cons, Bool.and_eq_true] at h1
          rw [F.oneU hc h1.1]
          simp
  · rw [if_neg hc] at e
    cases e
theorem CF.acc (d : Nat) {n : Nat} (F : CF K names A) (hn : names.length = n) (hd : d < n) : ∀ c b, accU d n c = some b → PySem.W.exmOne K (.ref (A c)) (.ref (A d)) = some b := fun c b e => by
  subst hn
  unfold accU at e
  by_cases hc : c < names.length
  · rw [if_pos hc] at e
    cases e
    exact F.exm hc hd
  · rw [if_neg hc] at e
    cases e
end

/-! ### the defs -/
def DF (K : PySem.W.Frag) (x : Str) (ps : List Str) (st : Stmt) : Prop := ∃ (f : Addr) (fd : FuncData), PySem.W.nsIn K mainGlobals x = some (some (.ref f)) ∧ Fun K x x st f fd ∧ ∀ (s : Shared) (us : List Value), us.length = ps.length → BindsTo s fd ⟨us, []⟩ (ps.zip us)
theorem DF.mk {K : PySem.W.Frag} {x : Str} {ps : List Str} {st : Stmt} {f : Addr} {oc : Value} {od an : Option Addr} {osl : Array (Option Value)} {kV doc pm cdv ct : Value}
    (h : ∀ (kV doc pm : Value) (an : Option Addr) (cdv ct : Value) (us : List Value), us.length = ps.length → bindArgs (PySem.W.fnOf x x (defArgs st) (defBody st) (defScope st) .none kV doc pm an cdv ct) ⟨us, []⟩ = pure (ps.zip us))
    (a : PySem.W.nsIn K mainGlobals x = some (some (.ref f))) (l : K.lookup f = some ⟨oc, od, .func (PySem.W.fnOf x x (defArgs st) (defBody st) (defScope st) .none kV doc pm an cdv ct), osl⟩) (c : PySem.W.codeIn K cdv x = true) (k : PySem.W.keepIn K (.ref f) = true) : DF K x ps st :=
  ⟨f, _, a, fun_mk l c k, fun s us hl => .of_eq (h kV doc pm an cdv ct us hl)⟩
theorem binds_of {K : PySem.W.Frag} {fd : FuncData} {ps : List Str} (h : ∀ (s : Shared) (us : List Value), us.length = ps.length → BindsTo s fd ⟨us, []⟩ (ps.zip us)) : Binds K fd ps [] := fun s us _ hl => by
  rw [List.append_nil] at hl ⊢
  exact h s us hl

/-! ### the law itself -/
theorem rfs_ints {D : Dn} {G : Hp} : ∀ ns : List Int, RFs D G (ns.map W.int) (ns.map V.int)
  | [] => rfl
  | n :: ns => ⟨.int n, _, rfl, rfl, rfs_ints ns⟩
def spTop (K : PySem.W.Frag) (g : Fn) : Sp := fun vs H Q E => ∀ CA : Nat → Addr, spOf ⟨K, CA⟩ 1 g vs H Q E
theorem spTop_of {K : PySem.W.Frag} {g : Fn} {ns : List Int} {H : Hp} {a : Addr} {ws : List W} (e : g [.scr (ns.map W.int)] = .ok (.bl true) ws) (hS : SqL K H a (ns.map V.int)) : spTop K g [.ref a] H (fun v _ => v = .bl true) fun _ _ _ => False := fun CA => by
  refine ⟨rfl, [.scr (ns.map W.int)], H, [], Sub.refl _, ⟨.ref a, [], [], [], rfl, rfl, ⟨rfl, a, _, rfl, hS, rfs_ints ns⟩, rfl, rfl⟩, List.nodup_nil, fun _ z => (nomatch z), ?_⟩
  rw [e]
  intro v G' H' O' Ow _ _ r _ _ _
  exact r.2
theorem walk_top {l : PySem.W.OpenLaw} {q : Program} {loose : List Str} {XP : (Str → Option Value) → Heap → Prop} {YP : World → Heap → Prop} {d : PySem.DefRec} {K : Params → PySem.W.Frag} {k : Nat} (g : Fn)
    (hn : l.most = some 63) (hdf : d.params.defaults = []) (hr : Room k PySem.callerA) (hY : ∀ (w : World) (h : Heap), YP w h → (K w.params).In h)
    (F : ∀ (w : World) (mg : Str → Option Value) (fa : Addr) (h : Heap), (K w.params).In h → h.Ns mainGlobals mg → mg d.name = some (.ref fa) →
      ∃ fd : FuncData, (∀ (s : Shared) (u : Value), BindsTo s fd ⟨[u], []⟩ [("script", u)]) ∧ ∃ CA : Nat → Addr, ∀ base : Heap, FnOk l.prog w (K w.params) mg base (L2.CX l.prog w) k fa fd ["script"] (spOf ⟨K w.params, CA⟩ 1 g))
    (law : ∀ ns : List Int, ns.length ≤ 63 → (∀ z ∈ ns, Builtin.Int.intBits z ≤ 1048576) → ∃ ws, g [.scr (ns.map W.int)] = .ok (.bl true) ws) :
    PySem.W.WalkO q loose XP YP l.row.toRowW d [] (fun f vs => PySem.call f vs) := by
  refine L2.walk_ofB (n := 63) (k := k) (x := "script") (CX := fun w => L2.CX l.prog w) (sp := fun w => spTop (K w.params) g) hn (by decide) hdf hr hY (fun w mg fa h KX G hm => ?_) (fun w H a ns hl hb _ hS => ?_) fun w H s e s' z => ?_
  · obtain ⟨fd, hb, CA, hF⟩ := F w mg fa h KX G hm
    exact ⟨fd, hb, fun base _ _ => (hF base).imp fun vs H Q E z => z CA⟩
  · obtain ⟨ws, e⟩ := law ns hl hb
    exact spTop_of e hS
  · obtain ⟨_, _, _, _, _, _, _, _, _, _, _, _, z⟩ := z
    exact z
end Ev

namespace Ev
open PySem PySem.Spec L2

/-! ### running a meaning -/
section
variable {α β : Type} {env : List W}
theorem r_bind (m : Sm α) (f : α → Sm β) : Sm.bind m f env = match m env with
  | .ok a e' => f a e'
  | .ex c e' => .ex c e'
  | .bad => .bad := rfl
theorem r_ret (a : α) : Sm.ret a env = .ok a env := rfl
theorem r_lft (o : Option α) : lft o env = match o with
  | some a => .ok a env
  | none => .bad := rfl
theorem r_c (w : W) : mC w env = .ok w env := rfl
theorem r_var (i : Nat) : mVar i env = match env[i]? with
  | some .dead => .bad
  | some w => .ok w env
  | none => .bad := rfl
theorem r_move (i : Nat) : mMove i env = match env[i]? with
  | some .dead => .bad
  | some w => .ok w (env.set i .dead)
  | none => .bad := rfl
theorem r_un (f : W → Option W) (m : Sm W) : mUn f m env = match m env with
  | .ok w e' => (match f w with
    | some r => .ok r e'
    | none => .bad)
  | .ex c e' => .ex c e'
  | .bad => .bad := by
  unfold mUn
  rw [r_bind]
  cases m env with
  | ok w e' => dsimp only; rw [r_lft]; cases f w <;> rfl
  | _ => rfl
theorem r_bin (f : W → W → Option W) (g : Bool) (m1 m2 : Sm W) : mBin f g m1 m2 env = match m1 env with
  | .ok w1 e1 => (match m2 e1 with
    | .ok w2 e2 => if (g || w1.frz) = true then (match f w1 w2 with
      | some r => .ok r e2
      | none => .bad) else .bad
    | .ex c e' => .ex c e'
    | .bad => .bad)
  | .ex c e' => .ex c e'
  | .bad => .bad := by
  unfold mBin
  rw [r_bind]
  cases m1 env with
  | ok w1 e1 =>
    dsimp only
    rw [r_bind]
    cases m2 e1 with
    | ok w2 e2 =>
      dsimp only
      split
      · rw [r_lft]; cases f w1 w2 <;> rfl
      · rfl
    | _ => rfl
  | _ => rfl
theorem r_chain (f g : W → W → Option W) (m1 m2 m3 : Sm W) : mChain f g m1 m2 m3 env = match m1 env with
  | .ok w1 e1 => (match m2 e1 with
    | .ok w2 e2 => (match (f w1 w2).bind blW with
      | some true => (match m3 e2 with
        | .ok w3 e3 => (match g w2 w3 with
          | some r => .ok r e3
          | none => .bad)
        | .ex c e' => .ex c e'
        | .bad => .bad)
      | some false => .ok (.bl false) e2
      | none => .bad)
    | .ex c e' => .ex c e'
    | .bad => .bad)
  | .ex c e' => .ex c e'
  | .bad => .bad := by
  unfold mChain
  rw [r_bind]
  cases m1 env with
  | ok w1 e1 =>
    dsimp only
    rw [r_bind]
    cases m2 e1 with
    | ok w2 e2 =>
      dsimp only
      rw [r_bind, r_lft]
      cases (f w1 w2).bind blW with
      | none => rfl
      | some b =>
        cases b with
        | false => rfl
        | true =>
          dsimp only
          rw [if_pos rfl, r_bind]
          cases m3 e2 with
          | ok w3 e3 => dsimp only; rw [r_lft]; cases g w2 w3 <;> rfl
          | _ => rfl
    | _ => rfl
  | _ => rfl
theorem r_toB (m : Sm W) : toB m env = match m env with
  | .ok w e' => (match blW w with
    | some r => .ok r e'
    | none => .bad)
  | .ex c e' => .ex c e'
  | .bad => .bad := by
  unfold toB
  rw [r_bind]
  cases m env with
  | ok w e' => dsimp only; rw [r_lft]; cases blW w <;> rfl
  | _ => rfl
theorem r_ofB (m : Sm Bool) : ofB m env = match m env with
  | .ok b e' => .ok (.bl b) e'
  | .ex c e' => .ex c e'
  | .bad => .bad := by
  unfold ofB
  rw [r_bind]
  cases m env with
  | ok w e' => first | rfl | (dsimp only; done) | (dsimp only; first | rfl | (split <;> first | rfl | (split <;> rfl)))
  | _ => rfl
theorem r_and (m1 m2 : Sm Bool) : mAnd m1 m2 env = match m1 env with
  | .ok true e' => m2 e'
  | .ok false e' => .ok false e'
  | .ex c e' => .ex c e'
  | .bad => .bad := by
  unfold mAnd
  rw [r_bind]
  cases m1 env with
  | ok b e' => cases b <;> rfl
  | _ => rfl
theorem r_or (m1 m2 : Sm Bool) : mOr m1 m2 env = match m1 env with
  | .ok true e' => .ok true e'
  | .ok false e' => m2 e'
  | .ex c e' => .ex c e'
  | .bad => .bad := by
  unfold mOr
  rw [r_bind]
  cases m1 env with
  | ok b e' => cases b <;> rfl
  | _ => rfl
theorem r_not (m : Sm Bool) : mNot m env = match m env with
  | .ok b e' => .ok (!b) e'
  | .ex c e' => .ex c e'
  | .bad => .bad := by
  unfold mNot
  rw [r_bind]
  cases m env with
  | ok w e' => first | rfl | (dsimp only; done) | (dsimp only; first | rfl | (split <;> first | rfl | (split <;> rfl)))
  | _ => rfl
theorem r_nil : mNil env = .ok [] env := rfl
theorem r_cons (m : Sm W) (ms : Sm (List W)) : mCons m ms env = match m env with
  | .ok w e' => if w.frz = true then (match ms e' with
    | .ok ws e2 => .ok (w :: ws) e2
    | .ex c e' => .ex c e'
    | .bad => .bad) else .bad
  | .ex c e' => .ex c e'
  | .bad => .bad := by
  unfold mCons
  rw [r_bind]
  cases m env with
  | ok w e' =>
    dsimp only
    split
    · rw [r_bind]; cases ms e' <;> rfl
    · rfl
  | _ => rfl
theorem r_args (f : List W → Option W) (m : Sm (List W)) : mArgs f m env = match m env with
  | .ok ws e' => (match f ws with
    | some r => .ok r e'
    | none => .bad)
  | .ex c e' => .ex c e'
  | .bad => .bad := by
  unfold mArgs
  rw [r_bind]
  cases m env with
  | ok w e' => dsimp only; rw [r_lft]; cases f w <;> rfl
  | _ => rfl
theorem r_iargs (f : List W → Option (List W)) (m : Sm (List W)) : iArgs f m env = match m env with
  | .ok ws e' => (match f ws with
    | some r => .ok r e'
    | none => .bad)
  | .ex c e' => .ex c e'
  | .bad => .bad := by
  unfold iArgs
  rw [r_bind]
  cases m env with
  | ok w e' => dsimp only; rw [r_lft]; cases f w <;> rfl
  | _ => rfl
theorem r_ilst (m : Sm W) : iLst m env = match m env with
  | .ok w e' => (match frzL w with
    | some r => .ok r e'
    | none => .bad)
  | .ex c e' => .ex c e'
  | .bad => .bad := by
  unfold iLst
  rw [r_bind]
  cases m env with
  | ok w e' => dsimp only; rw [r_lft]; cases frzL w <;> rfl
  | _ => rfl
theorem r_part (m : Sm W) : mPart m env = match m env with
  | .ok w e' => (match (intW w).map some with
    | some r => .ok r e'
    | none => .bad)
  | .ex c e' => .ex c e'
  | .bad => .bad := by
  unfold mPart
  rw [r_bind]
  cases m env with
  | ok w e' => dsimp only; rw [r_lft]; cases (intW w).map some <;> rfl
  | _ => rfl
theorem r_no : mNo env = .ok none env := rfl
theorem r_slice (b g : Bool) (m : Sm W) (ml mh : Sm (Option Int)) : mSlice b g m ml mh env = match m env with
  | .ok w e1 => (match ml e1 with
    | .ok lo e2 => (match mh e2 with
      | .ok hi e3 => if (g || w.frz) = true then (match cutW b w lo hi with
        | some r => .ok r e3
        | none => .bad) else .bad
      | .ex c e' => .ex c e'
      | .bad => .bad)
    | .ex c e' => .ex c e'
    | .bad => .bad)
  | .ex c e' => .ex c e'
  | .bad => .bad := by
  unfold mSlice
  rw [r_bind]
  cases m env with
  | ok w e1 =>
    dsimp only
    rw [r_bind]
    cases ml e1 with
    | ok lo e2 =>
      dsimp only
      rw [r_bind]
      cases mh e2 with
      | ok hi e3 =>
        dsimp only
        split
        · rw [r_lft]; cases cutW b w lo hi <;> rfl
        · rfl
      | _ => rfl
    | _ => rfl
  | _ => rfl
theorem r_callP (g : Fn) (m : Sm (List W)) : mCallP g m env = match m env with
  | .ok ws e' => (match g ws with
    | .ok w _ => .ok w e'
    | .ex c _ => .ex c e'
    | .bad => .bad)
  | .ex c e' => .ex c e'
  | .bad => .bad := by
  unfold mCallP
  rw [r_bind]
  cases m env with
  | ok w e' => first | rfl | (dsimp only; done) | (dsimp only; first | rfl | (split <;> first | rfl | (split <;> rfl)))
  | _ => rfl
theorem r_rnil : rNil env = .ok [] env := rfl
theorem r_rval (m : Sm W) (ms : Sm (List AV)) : rVal m ms env = match m env with
  | .ok w e' => if w.frz = true then (match ms e' with
    | .ok as e2 => .ok (.v w :: as) e2
    | .ex c e' => .ex c e'
    | .bad => .bad) else .bad
  | .ex c e' => .ex c e'
  | .bad => .bad := by
  unfold rVal
  rw [r_bind]
  cases m env with
  | ok w e' =>
    dsimp only
    split
    · rw [r_bind]; cases ms e' <;> rfl
    · rfl
  | _ => rfl
theorem r_rio (i : Nat) (ms : Sm (List AV)) : rIo i ms env = match ms env with
  | .ok as e' => .ok (.io i :: as) e'
  | .ex c e' => .ex c e'
  | .bad => .bad := by
  unfold rIo
  rw [r_bind]
  cases ms env with
  | ok w e' => first | rfl | (dsimp only; done) | (dsimp only; first | rfl | (split <;> first | rfl | (split <;> rfl)))
  | _ => rfl
theorem r_call (g : Fn) (n : Nat) (m : Sm (List AV)) : mCall g n m env = match m env with
  | .ok as e' => if as.length = n then (match takeA e' as with
    | none => .bad
    | some (ws, env0) => match g ws with
      | .ok w ws' => .ok w (putA env0 as ws')
      | .ex c ws' => .ex c (putA env0 as ws')
      | .bad => .bad) else .bad
  | .ex c e' => .ex c e'
  | .bad => .bad := by
  unfold mCall
  rw [r_bind]
  cases m env with
  | ok w e' => first | rfl | (dsimp only; done) | (dsimp only; first | rfl | (split <;> first | rfl | (split <;> rfl)))
  | _ => rfl
theorem r_callL (g : Fn) (n : Nat) (m : Sm (List AV)) : mCallL g n m env = match m env with
  | .ok as e' => if as.length = n then (match lendA e' as with
    | none => .bad
    | some ws => match g ws with
      | .ok w _ => if w.flat = true then .ok w e' else .bad
      | .ex c _ => .ex c e'
      | .bad => .bad) else .bad
  | .ex c e' => .ex c e'
  | .bad => .bad := by
  unfold mCallL
  rw [r_bind]
  cases m env with
  | ok w e' => first | rfl | (dsimp only; done) | (dsimp only; first | rfl | (split <;> first | rfl | (split <;> rfl)))
  | _ => rfl
theorem r_fz (m : Sm W) : mFz m env = match m env with
  | .ok w e' => (match w.fz.frz with
    | true => .ok w.fz e'
    | false => .bad)
  | .ex c e' => .ex c e'
  | .bad => .bad := by
  unfold mFz
  rw [r_bind]
  cases m env with
  | ok w e' => dsimp only; cases w.fz.frz <;> rfl
  | _ => rfl
theorem r_seq (m1 m2 : Sm Fl) : sSeq m1 m2 env = match m1 env with
  | .ok .nx e' => m2 e'
  | .ok .bk e' => .ok .bk e'
  | .ok .ct e' => .ok .ct e'
  | .ok (.rt w) e' => .ok (.rt w) e'
  | .ex c e' => .ex c e'
  | .bad => .bad := by
  unfold sSeq
  rw [r_bind]
  cases m1 env with
  | ok fl e' => cases fl <;> rfl
  | _ => rfl
theorem r_snil : sNil env = .ok .nx env := rfl
theorem r_if (c : Sm Bool) (a b : Sm Fl) : sIf c a b env = match c env with
  | .ok true e' => a e'
  | .ok false e' => b e'
  | .ex c e' => .ex c e'
  | .bad => .bad := by
  unfold sIf
  rw [r_bind]
  cases c env with
  | ok b e' => cases b <;> rfl
  | _ => rfl
theorem r_drop (m : Sm W) : sDrop m env = match m env with
  | .ok _ e' => .ok .nx e'
  | .ex c e' => .ex c e'
  | .bad => .bad := by
  unfold sDrop
  rw [r_bind]
  cases m env with
  | ok w e' => first | rfl | (dsimp only; done) | (dsimp only; first | rfl | (split <;> first | rfl | (split <;> rfl)))
  | _ => rfl
theorem r_sret (k : Bool) (m : Sm W) : sRet k m env = match m env with
  | .ok w e' => if (k || w.frz) = true then .ok (.rt w) e' else .bad
  | .ex c e' => .ex c e'
  | .bad => .bad := by
  unfold sRet
  rw [r_bind]
  cases m env with
  | ok w e' => dsimp only; split <;> rfl
  | _ => rfl
theorem r_set (i : Nat) (k : Bool) (m : Sm W) : sSet i k m env = match m env with
  | .ok w e' => if (k || w.frz) = true then .ok .nx (e'.set i w) else .bad
  | .ex c e' => .ex c e'
  | .bad => .bad := by
  unfold sSet
  rw [r_bind]
  cases m env with
  | ok w e' => first | rfl | (dsimp only; done) | (dsimp only; first | rfl | (split <;> first | rfl | (split <;> rfl)))
  | _ => rfl
theorem r_asg (f : Tg) (m : Sm W) : sAsg f m env = match m env with
  | .ok w e' => if w.frz = true then (match f w e' with
    | some e2 => .ok .nx e2
    | none => .bad) else .bad
  | .ex c e' => .ex c e'
  | .bad => .bad := by
  unfold sAsg
  rw [r_bind]
  cases m env with
  | ok w e' => first | rfl | (dsimp only; done) | (dsimp only; split <;> first | rfl | (cases f w e' <;> rfl))
  | _ => rfl
theorem r_aug (i : Nat) (f : Int → Int → Int) (m : Sm W) : sAug i f m env = match env[i]? with
  | some (.int a) => (match m env with
    | .ok (.int b) env' => .ok .nx (env'.set i (.int (f a b)))
    | .ok _ _ => .bad
    | .ex c env' => .ex c env'
    | .bad => .bad)
  | _ => .bad := rfl
theorem r_sfor (f : Tg) (body : Sm Fl) (kill : List Nat) (mi : Sm (List W)) : sFor f body kill mi env = match mi env with
  | .ok ws e' => mFor f body kill ws e'
  | .ex c e' => .ex c e'
  | .bad => .bad := by
  unfold sFor
  rw [r_bind]
  cases mi env with
  | ok w e' => first | rfl | (dsimp only; done) | (dsimp only; first | rfl | (split <;> first | rfl | (split <;> rfl)))
  | _ => rfl
theorem r_mut (i : Nat) (F : MutF) (m : Sm (List W)) : mMut i F m env = match env[i]? with
  | some (.lst true _) => (match m env with
    | .ok ws env1 => (match env1[i]? with
      | some (.lst true xs) => (match F xs ws with
        | some (w, xs') => .ok w (env1.set i (.lst true xs'))
        | none => .bad)
      | _ => .bad)
    | .ex c env1 => .ex c env1
    | .bad => .bad)
  | _ => .bad := rfl
theorem r_sto (i : Nat) (mi me : Sm W) : sSto i mi me env = match me env with
  | .ok w e' => if w.frz = true then (match e'[i]? with
    | some (.lst true _) => (match mi e' with
      | .ok j e2 => stoAt i w j e2
      | .ex c e' => .ex c e'
      | .bad => .bad)
    | _ => .bad) else .bad
  | .ex c e' => .ex c e'
  | .bad => .bad := by
  unfold sSto
  rw [r_bind]
  cases me env with
  | ok w e' =>
    dsimp only
    split
    · cases e'[i]? with
      | none => rfl
      | some v =>
        cases v <;> first
          | rfl
          | (rename_i b _; cases b <;> first | rfl | (dsimp only; rw [r_bind]; cases mi e' <;> rfl))
    · rfl
  | _ => rfl
theorem r_go (g : Sm Unit) (m : Sm Fl) : sGo g m env = match g env with
  | .ok _ e' => m e'
  | .ex c e' => .ex c e'
  | .bad => .bad := by
  unfold sGo
  rw [r_bind]
  cases g env with
  | ok w e' => first | rfl | (dsimp only; done) | (dsimp only; first | rfl | (split <;> first | rfl | (split <;> rfl)))
  | _ => rfl
theorem r_gfz (i : Nat) : gFz i env = match env[i]? with
  | some (.lst true xs) => .ok () (env.set i (.lst false xs))
  | _ => .bad := rfl
theorem r_raise (c : Nat) : sRaise c env = .ex c env := rfl
theorem r_try (acc : Nat → Option Bool) (i j : Nat) (mb : Sm Fl) : sTry acc i j mb env = match mb env with
  | .ex x env1 => (match acc x with
    | some true => .ok .nx ((env1.set j (.exc x)).set i .dead)
    | some false => .ex x env1
    | none => .bad)
  | .ok a e => .ok a e
  | .bad => .bad := by
  unfold sTry
  cases mb env <;> rfl
theorem r_andV (m1 m2 : Sm W) : mAndV m1 m2 env = ofB (mAnd (toB m1) (toB m2)) env := rfl
theorem r_orV (m1 m2 : Sm W) : mOrV m1 m2 env = ofB (mOr (toB m1) (toB m2)) env := rfl
theorem r_notV (m : Sm W) : mNotV m env = ofB (mNot (toB m)) env := rfl
theorem r_fn (N : Nat) (io : List Bool) (body : Sm Fl) (ws : List W) : fnSem N io body ws = match body (ws ++ List.replicate (N - ws.length) .dead) with
  | .ok (.rt w) env => .ok w (maskL io env)
  | .ok .nx env => .ok .non (maskL io env)
  | .ok _ _ => .bad
  | .ex c env => .ex c (maskL io env)
  | .bad => .bad := rfl
end
theorem maskL_nil (env : List W) : maskL [] env = [] := rfl
theorem maskL_cons (b : Bool) (bs : List Bool) (w : W) (env : List W) : maskL (b :: bs) (w :: env) = cond b w .dead :: maskL bs env := rfl
theorem frz_non : W.non.frz = true := rfl
theorem frz_bl (b : Bool) : (W.bl b).frz = true := rfl
theorem frz_int (i : Int) : (W.int i).frz = true := rfl
theorem frz_str (i : Str) : (W.str i).frz = true := rfl
theorem frz_tup (i : List W) : (W.tup i).frz = true := rfl
theorem frz_lst (b : Bool) (i : List W) : (W.lst b i).frz = !b := rfl
theorem frz_scr (i : List W) : (W.scr i).frz = true := rfl
theorem fz_lst (b : Bool) (i : List W) : (W.lst b i).fz = .lst false i := rfl
theorem fz_int (i : Int) : (W.int i).fz = .int i := rfl
theorem fz_tup (i : List W) : (W.tup i).fz = .tup i := rfl
theorem fz_str (i : Str) : (W.str i).fz = .str i := rfl
theorem fz_bl (i : Bool) : (W.bl i).fz = .bl i := rfl
theorem w_lst (b : Bool) (ws : List W) : lstW b ws = if ws.length ≤ sizeLine then some (.lst b ws) else none := Eq.trans rfl rfl
theorem w_tup (ws : List W) : tupW ws = if ws.length ≤ sizeLine then some (.tup ws) else none := Eq.trans rfl rfl
theorem w_add (b : Bool) (i j : Int) : addW b (.int i) (.int j) = some (.int (i + j)) := rfl
theorem w_addL (b c d : Bool) (xs ys : List W) : addW b (.lst c xs) (.lst d ys) = if xs.length + ys.length ≤ sizeLine then some (.lst b (xs ++ ys)) else none := Eq.trans rfl rfl
theorem w_addB (b c : Bool) (i : Int) : addW b (.int i) (.bl c) = some (.int (i + PyProof.Rows.b2i c)) := rfl
theorem w_sub (i j : Int) : subW (.int i) (.int j) = some (.int (i - j)) := rfl
theorem w_mul (b : Bool) (i j : Int) : mulW b (.int i) (.int j) = if mulOk i j then some (.int (i * j)) else none := Eq.trans rfl rfl
theorem w_rep (b c : Bool) (xs : List W) (k : Int) : mulW b (.lst c xs) (.int k) = if repOk xs.length k then some (.lst b (List.replicate k.toNat xs).flatten) else none := Eq.trans rfl rfl
theorem w_fdiv (i j : Int) : fdivW (.int i) (.int j) = if divOk j then some (.int (i / j)) else none := Eq.trans rfl rfl
theorem w_mod (i j : Int) : modW (.int i) (.int j) = if 0 < j then some (.int (i % j)) else none := Eq.trans rfl rfl
theorem w_pow (i j : Int) : powW (.int i) (.int j) = if powOk i j then some (.int (i ^ j.toNat)) else none := Eq.trans rfl rfl
theorem w_neg (i : Int) : negW (.int i) = some (.int (-i)) := rfl
theorem w_lt (i j : Int) : ltW (.int i) (.int j) = some (.bl (decide (i < j))) := rfl
theorem w_le (i j : Int) : leW (.int i) (.int j) = some (.bl (decide (i ≤ j))) := rfl
theorem w_ge (i j : Int) : geW (.int i) (.int j) = some (.bl (decide (j ≤ i))) := rfl
theorem w_gt (i j : Int) : gtW (.int i) (.int j) = some (.bl (decide (j < i))) := rfl
theorem w_bl (b : Bool) : blW (.bl b) = some b := rfl
theorem w_intW (i : Int) : intW (.int i) = some i := rfl
theorem w_toI (i : Int) : toIntW (.int i) = some (.int i) := rfl
theorem w_toB (b : Bool) : toIntW (.bl b) = some (.int (if b = true then 1 else 0)) := Eq.trans rfl rfl
theorem w_max2 (i j : Int) : max2W [.int i, .int j] = some (.int (if j > i then j else i)) := Eq.trans rfl rfl
theorem w_min2 (i j : Int) : min2W [.int i, .int j] = some (.int (if j < i then j else i)) := Eq.trans rfl rfl
theorem w_abs (i : Int) : absW (.int i) = some (.int (if i < 0 then -i else i)) := Eq.trans rfl rfl
theorem w_lenL (b : Bool) (ws : List W) : lenW (.lst b ws) = some (.int ws.length) := rfl
theorem w_lenC (ws : List W) : lenW (.scr ws) = some (.int ws.length) := rfl
theorem w_lenT (ws : List W) : lenW (.tup ws) = some (.int ws.length) := rfl
theorem w_listL (c b : Bool) (ws : List W) : listOfW c (.lst b ws) = some (.lst c ws) := rfl
theorem w_listC (c : Bool) (ws : List W) : listOfW c (.scr ws) = some (.lst c ws) := rfl
theorem w_listT (c : Bool) (ws : List W) : listOfW c (.tup ws) = some (.lst c ws) := rfl
theorem w_tupL (b : Bool) (ws : List W) : tupOfW (.lst b ws) = some (.tup ws) := rfl
theorem w_rev (c b : Bool) (ws : List W) : revW c (.lst b ws) = some (.lst c ws.reverse) := rfl
theorem w_ixL (b : Bool) (xs : List W) (i : Int) : ixW (.lst b xs) (.int i) = atI xs i := rfl
theorem w_ixC (xs : List W) (i : Int) : ixW (.scr xs) (.int i) = atI xs i := rfl
theorem w_ixT (xs : List W) (i : Int) : ixW (.tup xs) (.int i) = atI xs i := rfl
theorem w_cutL (c b : Bool) (xs : List W) (lo hi : Option Int) : cutW c (.lst b xs) lo hi = some (.lst c (cutL xs lo hi)) := rfl
theorem w_cutC (c : Bool) (xs : List W) (lo hi : Option Int) : cutW c (.scr xs) lo hi = some (.lst c (cutL xs lo hi)) := rfl
theorem w_frzL (ws : List W) : frzL (.lst false ws) = some ws := rfl
theorem w_frzC (ws : List W) : frzL (.scr ws) = some ws := rfl
theorem w_rng1 (j : Int) : rng1 [.int j] = if rngOk j then some (rngL 0 j.toNat) else none := Eq.trans rfl rfl
theorem w_rng2 (i j : Int) : rng2 [.int i, .int j] = if rngOk i ∧ rngOk j then some (rngL i (j - i).toNat) else none := Eq.trans rfl rfl
theorem w_enum (ws : List W) : enumL [.lst false ws] = some (ws.zipIdx.map fun q => .tup [.int (q.2 : Nat), q.1]) := rfl
theorem w_enumC (ws : List W) : enumL [.scr ws] = some (ws.zipIdx.map fun q => .tup [.int (q.2 : Nat), q.1]) := rfl
theorem w_zip (ws xs : List W) : zipL [.lst false ws, .lst false xs] = some ((ws.zip xs).map fun q => .tup [q.1, q.2]) := rfl
theorem w_app (xs : List W) (w : W) : fAppend xs [w] = if xs.length < sizeLine then some (.non, xs ++ [w]) else none := Eq.trans rfl rfl
theorem w_ext (xs ys : List W) : fExtend xs [.lst false ys] = if xs.length + ys.length ≤ sizeLine then some (.non, xs ++ ys) else none := Eq.trans rfl rfl
theorem w_pop (xs : List W) (w : W) : fPop (xs ++ [w]) [] = some (w, xs) := by
  unfold fPop
  simp
theorem w_sum (b : Bool) (ns : List Int) : sumW (.lst b (ns.map W.int)) = some (.int ns.sum) := by
  unfold sumW lisW
  rw [Option.bind_some, intsW_map]
  rfl
theorem w_maxL (b : Bool) (ns : List Int) (h : ns ≠ []) : maxW (.lst b (ns.map W.int)) = some (.int (maxL ns)) := by
  unfold maxW lisW
  rw [Option.bind_some, intsW_map, Option.bind_some, if_neg h]
theorem w_isi (tys : List String) (w : W) : isiW tys w = w.kind.bind fun k => (kitBs k tys).map .bl := rfl
theorem w_isx (tab : Nat → Option Bool) (c : Nat) : isxW tab (.exc c) = (tab c).map .bl := rfl
theorem w_isiI (i : Int) : isiW ["int"] (.int i) = some (.bl true) := by rfl
theorem w_isiB (i : Int) : isiW ["bool"] (.int i) = some (.bl false) := by rfl
theorem w_tgN (i : Nat) (w : W) (env : List W) : tgN i w env = some (env.set i w) := rfl
theorem w_tgT (is : List Nat) (ws env : List W) : tgT is (.tup ws) env = tgL is ws env := rfl
theorem w_killN (env : List W) : killE [] env = env := rfl
theorem w_killC (i : Nat) (is : List Nat) (env : List W) : killE (i :: is) env = killE is (env.set i .dead) := rfl
theorem w_takeN (env : List W) : takeA env [] = some ([], env) := rfl
theorem w_takeV (env : List W) (w : W) (as : List AV) : takeA env (.v w :: as) = (takeA env as).map fun r => (w :: r.1, r.2) := rfl
theorem w_takeI (env : List W) (i : Nat) (as : List AV) : takeA env (.io i :: as) = match env[i]? with
  | some .dead => none
  | some w => (takeA (env.set i .dead) as).map fun r => (w :: r.1, r.2)
  | none => none := Eq.trans rfl rfl
theorem w_putI (env : List W) (i : Nat) (as : List AV) (w : W) (ws : List W) : putA env (.io i :: as) (w :: ws) = putA (env.set i w) as ws := rfl
theorem w_putV (env : List W) (w1 : W) (as : List AV) (w : W) (ws : List W) : putA env (.v w1 :: as) (w :: ws) = putA env as ws := rfl
theorem w_putN (env : List W) (ws : List W) : putA env [] ws = env := by cases ws <;> rfl
theorem w_lendN (env : List W) : lendA env [] = some [] := rfl
theorem w_lendV (env : List W) (w : W) (as : List AV) : lendA env (.v w :: as) = (lendA env as).map (w :: ·) := rfl
theorem w_lendI (env : List W) (i : Nat) (as : List AV) : lendA env (.io i :: as) = match env[i]? with
  | some (.lst _ xs) => (lendA env as).map (.lst false xs :: ·)
  | some (.exc c) => (lendA env as).map (.exc c :: ·)
  | some (.nst xs) => if fzOks xs = true then (lendA env as).map (.lst false (fzDs xs) :: ·) else none
  | some (.ntp xs) => if fzOks xs = true then (lendA env as).map (.tup (fzDs xs) :: ·) else none
  | some w => if w.frz = true then (lendA env as).map (w :: ·) else none
  | none => none := Eq.trans rfl rfl
theorem flat_bl (b : Bool) : (W.bl b).flat = true := rfl
theorem flat_int (b : Int) : (W.int b).flat = true := rfl
theorem flat_non : W.non.flat = true := rfl
/-! ### side conditions -/
theorem mulOk_r {i j : Int} (h1 : -(2 ^ 64) < j) (h2 : j < 2 ^ 64) : mulOk i j := .inr ⟨h1, h2⟩
theorem mulOk_l {i j : Int} (h1 : -(2 ^ 64) < i) (h2 : i < 2 ^ 64) : mulOk i j := .inl ⟨h1, h2⟩
theorem divOk_of {j : Int} (h1 : 0 < j) (h2 : j < 2 ^ 64) : divOk j := by
  refine ⟨h1, ?_⟩
  have h3 : j.natAbs < 2 ^ 64 := by omega
  have h4 := (Nat.log2_lt (n := j.natAbs) (k := 64) (by omega)).mpr h3
  omega
theorem line_ge : (1000000 : Nat) ≤ sizeLine := by decide
theorem rngOk_of {j : Int} (h1 : -(2 ^ 62) ≤ j) (h2 : j < 2 ^ 62) : rngOk j := ⟨h1, h2⟩
/-! ### loops -/
/-- one turn of a for -/
def turn (f : Tg) (body : Sm Fl) (kill : List Nat) (x : W) (env : List W) : Out Fl := match f x env with
  | none => .bad
  | some env1 => match body env1 with
    | .ok .nx env2 => .ok .nx (killE kill env2)
    | .ok .ct env2 => .ok .nx (killE kill env2)
    | .ok .bk env2 => .ok .bk env2
    | .ok (.rt w) env2 => .ok (.rt w) env2
    | .ex c env2 => .ex c env2
    | .bad => .bad
theorem mFor_nil {f : Tg} {body : Sm Fl} {kill : List Nat} {env : List W} : mFor f body kill [] env = .ok .nx env := rfl
theorem mFor_cons {f : Tg} {body : Sm Fl} {kill : List Nat} {x : W} {xs : List W} {env : List W} : mFor f body kill (x :: xs) env = match turn f body kill x env with
  | .ok .nx env2 => mFor f body kill xs env2
  | .ok .bk env2 => .ok .nx env2
  | .ok .ct env2 => .ok .nx env2
  | .ok (.rt w) env2 => .ok (.rt w) env2
  | .ex c env2 => .ex c env2
  | .bad => .bad := by
  rw [mFor]
  unfold turn
  cases f x env with
  | none => rfl
  | some env1 =>
    dsimp only
    cases body env1 with
    | ok fl env2 => cases fl <;> rfl
    | _ => rfl
/-- a loop that goes through, its state by enc; I n s: what holds with n things to come -/
theorem mFor_fold {α σ : Type} {f : Tg} {body : Sm Fl} {kill : List Nat} (e : α → W) (enc : σ → List W) (step : σ → α → σ) (I : Nat → σ → Prop) : ∀ {xs : List α} {s : σ}, I xs.length s →
    (∀ x ∈ xs, ∀ n s, I (n + 1) s → turn f body kill (e x) (enc s) = .ok .nx (enc (step s x)) ∧ I n (step s x)) → mFor f body kill (xs.map e) (enc s) = .ok .nx (enc (xs.foldl step s)) ∧ I 0 (xs.foldl step s)
  | [], s, i, _ => ⟨rfl, i⟩
  | x :: xs, s, i, h => by
    obtain ⟨h1, h2⟩ := h x List.mem_cons_self _ s i
    rw [List.map_cons, mFor_cons, h1]
    exact mFor_fold e enc step I h2 fun y hy => h y (List.mem_cons_of_mem _ hy)
/-- a loop of all things, each turn at one and the same state -/
theorem mFor_all {α : Type} {f : Tg} {body : Sm Fl} {kill : List Nat} (e : α → W) {env : List W} : ∀ {xs : List α}, (∀ x ∈ xs, turn f body kill (e x) env = .ok .nx env) → mFor f body kill (xs.map e) env = .ok .nx env
  | [], _ => rfl
  | x :: xs, h => by
    rw [List.map_cons, mFor_cons, h x List.mem_cons_self]
    exact mFor_all e fun y hy => h y (List.mem_cons_of_mem _ hy)
/-- one thing of a comprehension -/
def lcOne (f : Tg) (tt : Sm Bool) (te : Sm W) (vs : List Nat) (x : W) (env : List W) : Out (Option W) := match f x env with
  | none => .bad
  | some env1 => match tt env1 with
    | .ok false env2 => .ok none (killE vs env2)
    | .ok true env2 => (match te env2 with
      | .ok y env3 => if y.frz = true then .ok (some y) (killE vs env3) else .bad
      | _ => .bad)
    | _ => .bad
theorem mLc_cons {f : Tg} {tt : Sm Bool} {te : Sm W} {vs : List Nat} {x : W} {xs acc env env' : List W} {o : Option W} (h : lcOne f tt te vs x (killE vs env) = .ok o env') (hl : acc.length < sizeLine) :
    ∃ env2, killE vs env2 = env' ∧ mLc f tt te vs (x :: xs) acc env = mLc f tt te vs xs (acc ++ o.toList) env2 := by
  unfold lcOne at h
  rw [mLc]
  cases e1 : f x (killE vs env) with
  | none => rw [e1] at h; cases h
  | some env1 =>
    rw [e1] at h
    dsimp only at h ⊢
    cases e2 : tt env1 with
    | bad => rw [e2] at h; cases h
    | ex c env2 => rw [e2] at h; cases h
    | ok b env2 =>
      rw [e2] at h
      cases b with
      | false =>
        cases h
        exact ⟨env2, rfl, by rw [Option.toList, List.append_nil]⟩
      | true =>
        dsimp only at h ⊢
        cases e3 : te env2 with
        | bad => rw [e3] at h; cases h
        | ex c env3 => rw [e3] at h; cases h
        | ok y env3 =>
          rw [e3] at h
          dsimp only at h ⊢
          by_cases hf : y.frz = true
          · rw [if_pos hf] at h
            cases h
            exact ⟨env3, rfl, by rw [if_pos ⟨hf, hl⟩]; rfl⟩
          · rw [if_neg hf] at h; cases h
def accG {α σ : Type} (g : σ → α → Option W) (step : σ → α → σ) : σ → List α → List W
  | _, [] => []
  | s, x :: xs => (g s x).toList ++ accG g step (step s x) xs
theorem mLc_fold {α σ : Type} {f : Tg} {tt : Sm Bool} {te : Sm W} {vs : List Nat} (e : α → W) (enc : σ → List W) (step : σ → α → σ) (g : σ → α → Option W) (I : Nat → σ → Prop) : ∀ {xs : List α} {s : σ} {acc env : List W}, I xs.length s → killE vs env = enc s → acc.length + xs.length ≤ sizeLine →
    (∀ x ∈ xs, ∀ n s, I (n + 1) s → lcOne f tt te vs (e x) (enc s) = .ok (g s x) (enc (step s x)) ∧ I n (step s x)) → mLc f tt te vs (xs.map e) acc env = .ok (acc ++ accG g step s xs) (enc (xs.foldl step s)) ∧ I 0 (xs.foldl step s)
  | [], s, acc, env, i, hk, hl, _ => ⟨by rw [List.map_nil, mLc, hk, accG, List.append_nil]; rfl, i⟩
  | x :: xs, s, acc, env, i, hk, hl, h => by
    rw [List.length_cons] at hl
    obtain ⟨h1, h2⟩ := h x List.mem_cons_self _ s i
    rw [← hk] at h1
    obtain ⟨env2, h3, h4⟩ := mLc_cons (xs := xs.map e) (acc := acc) h1 (by omega)
    have ho : (g s x).toList.length ≤ 1 := by cases g s x <;> simp
    obtain ⟨h5, h6⟩ := mLc_fold (acc := acc ++ (g s x).toList) e enc step g I h2 h3 (by rw [List.length_append]; omega) fun y hy => h y (List.mem_cons_of_mem _ hy)
    rw [List.map_cons, h4, h5, accG, List.append_assoc]
    exact ⟨rfl, h6⟩
theorem accG_fm {α σ : Type} {g : α → Option W} {step : σ → α → σ} : ∀ {xs : List α} {s : σ}, accG (fun _ => g) step s xs = xs.filterMap g
  | [], _ => rfl
  | x :: xs, s => by
    rw [accG, accG_fm, List.filterMap_cons]
    cases g x <;> rfl
/-- a comprehension that looks only, over things that are xs.map e -/
theorem comp_fm {α : Type} {f : Tg} {tt : Sm Bool} {te : Sm W} {vs : List Nat} {mi : Sm (List W)} {env : List W} (e : α → W) (g : α → Option W) {xs : List α} (hm : mi env = .ok (xs.map e) env) (hl : xs.length ≤ sizeLine)
    (h : ∀ x ∈ xs, lcOne f tt te vs (e x) (killE vs env) = .ok (g x) (killE vs env)) : mComp true f tt te vs mi env = .ok (.lst true (xs.filterMap g)) env := by
  unfold mComp
  rw [r_bind, hm]
  dsimp only
  obtain ⟨h1, _⟩ := mLc_fold (vs := vs) (σ := Unit) (acc := []) (env := env) (xs := xs) (f := f) (tt := tt) (te := te) e (fun _ => killE vs env) (fun _ _ => ()) (fun _ => g) (fun _ _ => True) (s := ()) trivial rfl (by simpa using hl) fun x hx _ _ _ => ⟨h x hx, trivial⟩
  rw [h1, accG_fm]
  rfl
theorem filterMap_some {α : Type} {g : α → W} {xs : List α} : xs.filterMap (fun x => some (g x)) = xs.map g := by
  induction xs with
  | nil => rfl
  | cons x xs ih => rw [List.filterMap_cons, ih]; rfl
theorem filterMap_if {α : Type} {p : α → Bool} {g : α → W} {xs : List α} : xs.filterMap (fun x => if p x = true then some (g x) else none) = (xs.filter p).map g := by
  induction xs with
  | nil => rfl
  | cons x xs ih =>
    rw [List.filterMap_cons, List.filter_cons]
    by_cases h : p x = true
    · rw [if_pos h, if_pos h, ih]; rfl
    · rw [if_neg h, if_neg h, ih]
theorem comp_map {α : Type} {f : Tg} {tt : Sm Bool} {te : Sm W} {vs : List Nat} {mi : Sm (List W)} {env : List W} (e : α → W) (g : α → W) {xs : List α} (hm : mi env = .ok (xs.map e) env) (hl : xs.length ≤ sizeLine)
    (h : ∀ x ∈ xs, lcOne f tt te vs (e x) (killE vs env) = .ok (some (g x)) (killE vs env)) : mComp true f tt te vs mi env = .ok (.lst true (xs.map g)) env := by
  rw [comp_fm e (fun x => some (g x)) hm hl h, filterMap_some]
theorem comp_filter {α : Type} {f : Tg} {tt : Sm Bool} {te : Sm W} {vs : List Nat} {mi : Sm (List W)} {env : List W} (e : α → W) (p : α → Bool) (g : α → W) {xs : List α} (hm : mi env = .ok (xs.map e) env) (hl : xs.length ≤ sizeLine)
    (h : ∀ x ∈ xs, lcOne f tt te vs (e x) (killE vs env) = .ok (if p x = true then some (g x) else none) (killE vs env)) : mComp true f tt te vs mi env = .ok (.lst true ((xs.filter p).map g)) env := by
  rw [comp_fm e (fun x => if p x = true then some (g x) else none) hm hl h, filterMap_if]
/-- a comprehension that changes the state -/
theorem comp_acc {α σ : Type} {f : Tg} {tt : Sm Bool} {te : Sm W} {vs : List Nat} {mi : Sm (List W)} {env env1 : List W} (e : α → W) (enc : σ → List W) (step : σ → α → σ) (g : σ → α → Option W) (I : Nat → σ → Prop) {xs : List α} {s : σ} (hm : mi env = .ok (xs.map e) env1) (hk : killE vs env1 = enc s) (hi : I xs.length s) (hl : xs.length ≤ sizeLine)
    (h : ∀ x ∈ xs, ∀ n s, I (n + 1) s → lcOne f tt te vs (e x) (enc s) = .ok (g s x) (enc (step s x)) ∧ I n (step s x)) : mComp false f tt te vs mi env = .ok (.lst true (accG g step s xs)) (enc (xs.foldl step s)) ∧ I 0 (xs.foldl step s) := by
  obtain ⟨h1, h2⟩ := mLc_fold (vs := vs) (acc := []) (env := env1) (f := f) (tt := tt) (te := te) e enc step g I hi hk (by simpa using hl) h
  unfold mComp
  rw [r_bind, hm]
  dsimp only
  rw [h1]
  exact ⟨rfl, h2⟩
def accL {α σ β : Type} (g : σ → α → β) (step : σ → α → σ) : σ → List α → List β
  | _, [] => []
  | s, x :: xs => g s x :: accL g step (step s x) xs
theorem accG_some {α σ β : Type} {g : σ → α → β} {e : β → W} {step : σ → α → σ} : ∀ {xs : List α} {s : σ}, accG (fun s x => some (e (g s x))) step s xs = (accL g step s xs).map e
  | [], _ => rfl
  | x :: xs, s => by
    rw [accG, accG_some, accL, List.map_cons]
    rfl
theorem accL_len {α σ β : Type} {g : σ → α → β} {step : σ → α → σ} : ∀ {xs : List α} {s : σ}, (accL g step s xs).length = xs.length
  | [], _ => rfl
  | x :: xs, s => by rw [accL, List.length_cons, accL_len, List.length_cons]
theorem accL_mem {α σ β : Type} {g : σ → α → β} {step : σ → α → σ} {p : β → Prop} (h : ∀ s x, p (g s x)) : ∀ {xs : List α} {s : σ}, ∀ y ∈ accL g step s xs, p y
  | [], _, _, z => nomatch z
  | x :: xs, s, y, hy => by
    rcases List.mem_cons.mp hy with rfl | hy
    · exact h s x
    · exact accL_mem h y hy
theorem rngL_nat (n : Nat) : rngL 0 n = (List.range n).map (fun i : Nat => W.int (0 + (i : Int))) := rfl
/-! ### items -/
theorem atI_pos {α : Type} (xs : List α) {i : Int} (h : 0 ≤ i) : atI xs i = xs[i.toNat]? := by
  unfold atI ixN
  rw [if_pos h]
  by_cases h1 : i < (xs.length : Int)
  · rw [if_pos h1]; rfl
  · rw [if_neg h1, List.getElem?_eq_none (by omega)]; rfl
theorem atI_nat {α : Type} (xs : List α) (k : Nat) : atI xs (k : Int) = xs[k]? := by
  rw [atI_pos xs (by omega), Int.toNat_natCast]
theorem atI_map {α : Type} (e : α → W) (xs : List α) (k : Nat) : atI (xs.map e) (k : Int) = (xs[k]?).map e := by
  rw [atI_nat, List.getElem?_map]
/-! ### things as values -/
structure EncOk {α : Type} (e : α → W) (n : Nat) : Prop where
  frz : ∀ a, (e a).frz = true
  fd : ∀ a, (e a).fd = true
  eqv : ∀ a b, PyData.eqv (e a).dat (e b).dat = true ↔ a = b
  dep : ∀ a, (e a).dat.depth ≤ n
theorem EncOk.int : EncOk W.int 0 := ⟨fun _ => rfl, fun _ => rfl, fun a b => by simp [W.dat, PyData.eqv], fun a => by simp [W.dat, PyData.depth]⟩
theorem EncOk.nat : EncOk (fun n : Nat => W.int n) 0 := ⟨fun _ => rfl, fun _ => rfl, fun a b => by simp [W.dat, PyData.eqv]; omega, fun a => by simp [W.dat, PyData.depth]⟩
theorem EncOk.str : EncOk W.str 0 := ⟨fun _ => rfl, fun _ => rfl, fun a b => by simp [W.dat, PyData.eqv], fun a => by simp [W.dat, PyData.depth]⟩
section
variable {α β γ : Type} {e : α → W} {f : β → W} {g : γ → W} {n m k : Nat}
theorem EncOk.pair (h1 : EncOk e n) (h2 : EncOk f n) : EncOk (fun p : α × β => .tup [e p.1, f p.2]) (n + 1) := ⟨fun _ => rfl, fun _ => rfl, fun a b => by
  simp only [W.dat, datL, PyData.eqv, PyData.eqvAll, Bool.and_true, Bool.and_eq_true, h1.eqv, h2.eqv]
  exact ⟨fun ⟨x, y⟩ => Prod.ext x y, fun x => by subst x; exact ⟨rfl, rfl⟩⟩, fun a => by
  have := h1.dep a.1
  have := h2.dep a.2
  simp only [W.dat, datL, PyData.depth, PyData.depthAll]
  omega⟩
theorem EncOk.three (h1 : EncOk e n) (h2 : EncOk f n) (h3 : EncOk g n) : EncOk (fun p : α × β × γ => .tup [e p.1, f p.2.1, g p.2.2]) (n + 1) := ⟨fun _ => rfl, fun _ => rfl, fun a b => by
  simp only [W.dat, datL, PyData.eqv, PyData.eqvAll, Bool.and_true, Bool.and_eq_true, h1.eqv, h2.eqv, h3.eqv]
  exact ⟨fun ⟨x, y, z⟩ => Prod.ext x (Prod.ext y z), fun x => by subst x; exact ⟨rfl, rfl, rfl⟩⟩, fun a => by
  have := h1.dep a.1
  have := h2.dep a.2.1
  have := h3.dep a.2.2
  simp only [W.dat, datL, PyData.depth, PyData.depthAll]
  omega⟩
theorem EncOk.all (h : EncOk e n) : ∀ xs ys : List α, PyData.eqvAll (datL (xs.map e)) (datL (ys.map e)) = true ↔ xs = ys
  | [], [] => by simp [datL, PyData.eqvAll]
  | [], y :: ys => by simp [datL, PyData.eqvAll]
  | x :: xs, [] => by simp [datL, PyData.eqvAll]
  | x :: xs, y :: ys => by
    simp only [List.map_cons, datL, PyData.eqvAll, Bool.and_eq_true, h.eqv, h.all xs ys, List.cons.injEq]
theorem EncOk.deps (h : EncOk e n) : ∀ xs : List α, PyData.depthAll (datL (xs.map e)) ≤ n
  | [] => by simp [datL, PyData.depthAll]
  | x :: xs => by
    have h1 := h.dep x
    have h2 := h.deps xs
    simp only [List.map_cons, datL, PyData.depthAll]
    omega
theorem EncOk.lst (h : EncOk e n) : EncOk (fun xs : List α => .lst false (xs.map e)) (n + 1) := ⟨fun _ => rfl, fun _ => rfl, fun a b => by
  simp only [W.dat, PyData.eqv]
  exact h.all a b, fun a => by
  have := h.deps a
  simp only [W.dat, PyData.depth]
  omega⟩
variable [DecidableEq α]
theorem eqv_dec (h : EncOk e n) (a b : α) : PyData.eqv (e a).dat (e b).dat = decide (a = b) := by
  by_cases c : a = b
  · rw [(h.eqv a b).mpr c, decide_eq_true c]
  · have := fun z => c ((h.eqv a b).mp z)
    rw [decide_eq_false c]
    exact Bool.eq_false_iff.mpr this
theorem eqv_decL (h : EncOk e n) (a b : List α) : PyData.eqvAll (datL (a.map e)) (datL (b.map e)) = decide (a = b) := by
  by_cases c : a = b
  · rw [(h.all a b).mpr c, decide_eq_true c]
  · have := fun z => c ((h.all a b).mp z)
    rw [decide_eq_false c]
    exact Bool.eq_false_iff.mpr this
theorem eqW_of (h : EncOk e n) (a b : α) (hn : n ≤ 60 := by decide) : eqW (e a) (e b) = some (.bl (decide (a = b))) := by
  unfold eqW
  rw [if_pos ⟨by rw [h.fd, h.fd]; rfl, .inl (Nat.le_trans (h.dep a) hn)⟩, eqv_dec h]
theorem neW_of (h : EncOk e n) (a b : α) (hn : n ≤ 60 := by decide) : neW (e a) (e b) = some (.bl (!decide (a = b))) := by
  unfold neW
  rw [if_pos ⟨by rw [h.fd, h.fd]; rfl, .inl (Nat.le_trans (h.dep a) hn)⟩, eqv_dec h]
theorem eqW_lst (h : EncOk e n) (b c : Bool) (xs ys : List α) (hn : n + 1 ≤ 60 := by decide) : eqW (.lst b (xs.map e)) (.lst c (ys.map e)) = some (.bl (decide (xs = ys))) := by
  unfold eqW
  have hd : (W.lst b (xs.map e)).dat.depth ≤ 60 := by
    have := h.deps xs
    simp only [W.dat, PyData.depth]
    omega
  rw [if_pos ⟨rfl, .inl hd⟩]
  simp only [W.dat, PyData.eqv]
  rw [eqv_decL h]
theorem neW_lst (h : EncOk e n) (b c : Bool) (xs ys : List α) (hn : n + 1 ≤ 60 := by decide) : neW (.lst b (xs.map e)) (.lst c (ys.map e)) = some (.bl (!decide (xs = ys))) := by
  unfold neW
  have hd : (W.lst b (xs.map e)).dat.depth ≤ 60 := by
    have := h.deps xs
    simp only [W.dat, PyData.depth]
    omega
  rw [if_pos ⟨rfl, .inl hd⟩]
  simp only [W.dat, PyData.eqv]
  rw [eqv_decL h]
end
/-- against the empty list -/
theorem eqW_nil (b c : Bool) (ws : List W) : eqW (.lst b ws) (.lst c []) = some (.bl (decide (ws = []))) := by
  unfold eqW
  rw [if_pos ⟨rfl, .inr (by simp [W.dat, datL, PyData.depth, PyData.depthAll])⟩]
  cases ws <;> simp [W.dat, datL, PyData.eqv, PyData.eqvAll]
theorem neW_nil (b c : Bool) (ws : List W) : neW (.lst b ws) (.lst c []) = some (.bl (!decide (ws = []))) := by
  unfold neW
  rw [if_pos ⟨rfl, .inr (by simp [W.dat, datL, PyData.depth, PyData.depthAll])⟩]
  cases ws <;> simp [W.dat, datL, PyData.eqv, PyData.eqvAll]
theorem eqW_int (i j : Int) : eqW (.int i) (.int j) = some (.bl (decide (i = j))) := eqW_of EncOk.int i j
theorem neW_int (i j : Int) : neW (.int i) (.int j) = some (.bl (!decide (i = j))) := neW_of EncOk.int i j
theorem eqW_str (i j : Str) : eqW (.str i) (.str j) = some (.bl (decide (i = j))) := eqW_of EncOk.str i j
theorem neW_str (i j : Str) : neW (.str i) (.str j) = some (.bl (!decide (i = j))) := neW_of EncOk.str i j
end Ev

namespace Ev
/-! ### set(xs), xs a list of ints -/
section
open PySem PySem.Spec PyProof.Rows L2
abbrev newSet (w : World) : Obj := { cls := .type "set", dict := none, data := .set #[] 0 (.fresh 0 0 (!w.params.followText "set-order")) }
variable {P : Program} {w : World} {A : Around} {E : Value → Shared → Prop} {s : Shared}
set_option maxHeartbeats 8000000 in
theorem set_of_lst {q : Addr} {its : Array Value} (ns : List Int) {Q : Value → Shared → Prop} (hA : A.handled = none) (hq : s.heap.IsList q its) (hv : IntsAre its.toList ns) (room : ns.length + 1 < scanBound)
    (fin : ∀ (h' : Heap) (tk c : Nat), SetR w h' s.heap.objs.size (fun j => decide (j ∈ ns)) c → c ≤ ns.length → (∀ b o, s.heap.get? b = some o → h'.get? b = some o) → Q (.ref s.heap.objs.size) { s with heap := h', toks := tk }) :
    wpAny (model P w) A (call (.type "set") [.ref q]) Q E s := by
  have sz : its.size = ns.length := by have z := IntsAre.length hv; rwa [Array.length_toList] at z
  obtain ⟨c0, tl0, mro0⟩ := F.called_set.mro
  have made0 := F.called_set.made
  have sub0 := F.called_set.sub
  refine wpAny_call (codeAny_of_tree ?_)
  show wpAny _ _ (callAny (.type "set") _) _ _ _
  refine wpAny_pure ⟨Code.quiet_builtin _ (by decide +kernel), codeAny_builtin F.entry_type_call ?_⟩
  rw [Around.under_plain (weight_type_call_type "set" [.ref q] []) rfl]
  have n1 := F.called_set.notType
  have n2 := F.called_set.canCreate
  have n3 := F.typeCall_set_1 (.ref q)
  repeat (any_goals (first | assumption | wp_step))
  refine codeAny_mono (code_set_led1 (.ref q) (E := E) (Q₁ := fun x s₁ => x = .ref s.heap.objs.size ∧ s₁ = { s with heap := s.heap.push (newSet w) }) ⟨rfl, rfl⟩) fun r s₁ hr => ?_
  cases r with
  | error e => exact hr
  | ok fl =>
    cases fl with
    | ret x =>
      obtain ⟨rfl, rfl⟩ := hr
      have at0 : (s.heap.push (newSet w)).get? s.heap.objs.size = some (newSet w) := Heap.get?_push_size _ rfl
      have ty0 : Shared.TypeIs { s with heap := s.heap.push (newSet w) } (.ref s.heap.objs.size) "set" := ⟨_, at0, rfl⟩
      have look0 := F.called_set.init.lookup
      have bind0 := F.called_set.init.bind (.ref s.heap.objs.size)
      repeat (any_goals (first | assumption | wp_step))
      refine codeAny_mono (codeAny_call_builtin (R := wants (fun y s₂ => y = .none ∧ ∃ h' tk c, s₂ = { s with heap := h', toks := tk } ∧ SetR w h' s.heap.objs.size (fun j => decide (j ∈ ns)) c ∧ c ≤ ns.length ∧ (∀ b o, s.heap.get? b = some o → h'.get? b = some o)) E) F.called_set.init.plain F.entry_set_init (check_set_init_1 ty0 ?_)) fun r₂ s₂ hr₂ => ?_
      · obtain ⟨ol, hol, hcl, nl, hdl⟩ := hq
        obtain ⟨ocls, odict, odata, oslots⟩ := ol
        simp only at hcl hdl
        subst hcl; subst hdl
        have lst0 : (s.heap.push (newSet w)).get? q = some { cls := .type "list", dict := odict, data := .seq its nl, slots := oslots } := Heap.get?_push_of_some _ hol
        have s1 := F.sub_list_set
        have s2 := F.sub_list_frozenset
        have ne0 : (Value.type "list" == Value.type "dict") = false := by decide
        have isl : (s.heap.push (newSet w)).IsList q its := ⟨_, lst0, rfl, nl, rfl⟩
        unfold Builtin.«set.__init__» noKeywords Builtin.Frozenset.updateFrom
        generalize hPI : pyIter = PI
        wp_walk
        subst hPI
        refine wpAny_pyIter_list isl ?_
        refine wpAny_bind (wpAny_runValue ?_)
        have below : q < s.heap.objs.size := Heap.lt_size hol
        have hh3 : A.in1.in1.in1.handled = none := by simp [hA]
        have z1 : (s.heap.push (newSet w)).objs.size = s.heap.objs.size + 1 := Heap.size_push ..
        have apart : q ≠ (s.heap.push (newSet w)).objs.size := by
          rw [z1]
          exact Nat.ne_of_lt (Nat.lt_succ_of_lt below)
        have away : s.heap.objs.size ∉ [(s.heap.push (newSet w)).objs.size, q] := by
          rw [z1]
          simp only [List.mem_cons, List.mem_singleton, List.not_mem_nil, or_false, not_or]
          exact ⟨Nat.ne_of_lt (Nat.lt_succ_self _), Nat.ne_of_gt below⟩
        have each : ∀ (i : Nat) (v : Value), its[i]? = some v → ∃ k t, ns[i]? = some k ∧ v = .int k t := fun i v hi => by
          have lt : i < ns.length := by rw [← sz]; exact (Array.getElem?_eq_some_iff.mp hi).1
          obtain ⟨t, e⟩ := PyProof.Rows.IntsAre.int_at hv i v (by rw [Array.getElem?_toList]; exact hi)
          refine ⟨ns[i], t, List.getElem?_eq_getElem lt, ?_⟩
          rw [e, List.getD_eq_getElem?_getD, List.getElem?_eq_getElem lt] <;> rfl
        refine set_update_ints ((Walks.list hh3 _ q apart its).toS) s.heap.objs.size away ns sz room each (its.size - 0) 0 _ (by omega) (Nat.zero_le _) ⟨⟨_, Heap.get?_push_size _ rfl, rfl, rfl⟩, (isl.push _)⟩ ?start0 ?behind
        case start0 =>
          have g : ((s.heap.push (newSet w)).push { cls := .type "list_iterator", data := .fields #[.ref q, .int 0 0] }).get? s.heap.objs.size = some (newSet w) := Heap.get?_push_of_some _ at0
          exact ⟨0, Nat.le_refl 0, setR_new_at g⟩
        case behind =>
          intro s' c' mv hc' hS'
          obtain ⟨h', g2, d', tk', os'⟩ := s'
          obtain rfl : g2 = s.gens := mv.gens
          obtain rfl : d' = s.drawn := mv.drawn
          obtain rfl : os' = s.os := mv.os
          show wpAny _ _ _ _ _ _
          refine wpAny_pure ?_
          show wpAny _ _ (ret Value.none) _ _ _
          rw [sz] at hc'
          refine wpAny_pure ⟨rfl, h', tk', c', rfl, hS', hc', fun b o e => ?_⟩
          have b0 : b < s.heap.objs.size := Heap.lt_size e
          refine mv.heap b o ?_ (Heap.get?_push_of_some _ (Heap.get?_push_of_some _ e))
          rw [z1]
          simp only [List.mem_cons, List.mem_singleton, List.not_mem_nil, or_false, not_or]
          exact ⟨Nat.ne_of_lt b0, Nat.ne_of_lt (Nat.lt_succ_of_lt b0)⟩
      · cases r₂ with
        | error e => exact hr₂
        | ok fl₂ =>
          cases fl₂ with
          | ret y =>
            obtain ⟨rfl, h', tk, c, rfl, hS', hc', hk'⟩ := hr₂
            repeat (any_goals (first | assumption | wp_step))
            exact fin _ _ _ hS' hc' hk'
          | _ => exact hr₂.elim
    | _ => exact hr.elim
end
end Ev

namespace Ev
/-! ### sorted(set(xs)) -/
open PySem PySem.Spec L2
def rSetI (K : PySem.W.Frag) (w : World) : List V → Hp → VK → Prop := fun xs H Q => ∃ (l : Addr) (ns : List Int), xs = [.ref l] ∧ SqL K H l (ns.map V.int) ∧ ns.length < 64 ∧ ∀ p c, H p = none → c ≤ ns.length → Q (.ref p) (upd H p (SetO w p (fun j => decide (j ∈ ns)) c))
theorem cr_setI {X : Cx} (hc : X.calm = true) : CallR X (.type "set") (rSetI X.K X.w) := by
  intro pins s σ H xs us Q I r h
  obtain ⟨l, ns, rfl, hl, h64, q⟩ := h
  rw [Vals.ref1 r]
  obtain ⟨its, rv, pl, hz⟩ := I.list hl
  have free : H s.heap.objs.size = none := I.hok.fresh (Nat.le_refl _)
  refine set_of_lst (P := X.prog) (w := X.w) ns (I.ok.hd hc) pl.isList (by simpa using RZ.intsAre_vals rv) (by unfold scanBound; omega) fun h' tk c R hcn k => ?_
  exact ⟨.ref s.heap.objs.size, upd H s.heap.objs.size (SetO X.w s.heap.objs.size (fun j => decide (j ∈ ns)) c), I.laid (t' := tk) k (Nat.le_refl _) (setO_new R), rfl, q _ c free hcn⟩
def insS (x : Int) : List Int → List Int
  | [] => [x]
  | y :: ys => if x < y then x :: y :: ys else if x = y then y :: ys else y :: insS x ys
def sortSet (ns : List Int) : List Int := ns.foldr insS []
theorem mem_insS {x k : Int} : ∀ {ys : List Int}, k ∈ insS x ys ↔ k = x ∨ k ∈ ys
  | [] => by simp [insS]
  | y :: ys => by
    unfold insS
    by_cases h : x < y
    · rw [if_pos h, List.mem_cons]
    · rw [if_neg h]
      by_cases h2 : x = y
      · rw [if_pos h2, h2, List.mem_cons]
        constructor
        · exact .inr
        · rintro (z | z)
          · exact .inl z
          · exact z
      · rw [if_neg h2, List.mem_cons, mem_insS, List.mem_cons]
        constructor
        · rintro (z | z | z)
          · exact .inr (.inl z)
          · exact .inl z
          · exact .inr (.inr z)
        · rintro (z | z | z)
          · exact .inr (.inl z)
          · exact .inl z
          · exact .inr (.inr z)
theorem insS_up {x : Int} : ∀ {ys : List Int}, ys.Pairwise (· < ·) → (insS x ys).Pairwise (· < ·)
  | [], _ => by simp [insS]
  | y :: ys, h => by
    obtain ⟨h1, h2⟩ := List.pairwise_cons.mp h
    unfold insS
    by_cases c : x < y
    · rw [if_pos c]
      refine List.pairwise_cons.mpr ⟨fun z hz => ?_, h⟩
      rcases List.mem_cons.mp hz with rfl | hz
      · exact c
      · have := h1 z hz; omega
    · rw [if_neg c]
      by_cases c2 : x = y
      · rw [if_pos c2]; exact h
      · rw [if_neg c2]
        refine List.pairwise_cons.mpr ⟨fun z hz => ?_, insS_up h2⟩
        rcases mem_insS.mp hz with rfl | hz
        · omega
        · exact h1 z hz
theorem sortSet_up : ∀ ns : List Int, (sortSet ns).Pairwise (· < ·)
  | [] => List.Pairwise.nil
  | n :: ns => insS_up (sortSet_up ns)
theorem mem_sortSet {k : Int} : ∀ {ns : List Int}, k ∈ sortSet ns ↔ k ∈ ns
  | [] => Iff.rfl
  | n :: ns => by
    show k ∈ insS n (sortSet ns) ↔ _
    rw [mem_insS, mem_sortSet, List.mem_cons]
/-- two rising lists of the same members are one -/
theorem up_unique : ∀ {xs ys : List Int}, xs.Pairwise (· < ·) → ys.Pairwise (· < ·) → (∀ k, k ∈ xs ↔ k ∈ ys) → xs = ys
  | [], [], _, _, _ => rfl
  | [], y :: ys, _, _, h => absurd ((h y).mpr List.mem_cons_self) (by simp)
  | x :: xs, [], _, _, h => absurd ((h x).mp List.mem_cons_self) (by simp)
  | x :: xs, y :: ys, hx, hy, h => by
    obtain ⟨x1, x2⟩ := List.pairwise_cons.mp hx
    obtain ⟨y1, y2⟩ := List.pairwise_cons.mp hy
    have e : x = y := by
      rcases List.mem_cons.mp ((h x).mp List.mem_cons_self) with z | z
      · exact z
      · rcases List.mem_cons.mp ((h y).mpr List.mem_cons_self) with z2 | z2
        · exact z2.symm
        · have := y1 x z; have := x1 y z2; omega
    subst e
    refine congrArg _ (up_unique x2 y2 fun k => ⟨fun hk => ?_, fun hk => ?_⟩)
    · rcases List.mem_cons.mp ((h k).mp (List.mem_cons_of_mem _ hk)) with z | z
      · have := x1 k hk; omega
      · exact z
    · rcases List.mem_cons.mp ((h k).mpr (List.mem_cons_of_mem _ hk)) with z | z
      · have := y1 k hk; omega
      · exact z
def sortSetW (b : Bool) (w : W) : Option W := (lisW w).bind fun ws => (intsW ws).bind fun ns => if ns.length < 64 then some (.lst b ((sortSet ns).map W.int)) else none
theorem w_sortSet (b c : Bool) (ns : List Int) (h : ns.length < 64) : sortSetW b (.lst c (ns.map W.int)) = some (.lst b ((sortSet ns).map W.int)) := by
  unfold sortSetW lisW
  rw [Option.bind_some, intsW_map, Option.bind_some, if_pos h]
theorem Ans.on {D : Dn} {G H : Hp} {w : W} {Q : VK} {p : Addr} {o : HO} (n : H p = none) (q : Ans D G H w Q) : Ans D G (upd H p o) w Q := fun v G' H' Ow a b c d e =>
  q v G' H' Ow a b c d ((Step.less (O2 := []) (step_own n) fun _ z => (nomatch z)).trans e)
section
variable {Z : Zt} {e : Expr} {m : Sm W} {p k1 : Bool} {p1 p2 p3 p4 : Pos}
theorem me_sortSet (b : Bool) (hc : Z.X.calm = true) (hm : Z.X.mg "sorted" = none) (hm2 : Z.X.mg "set" = none) (ha : ME Z e m p k1) (hg : Gl Z.X "sorted" := by rfl) (hg2 : Gl Z.X "set" := by rfl) (hs : starEach [e] Z.X.env = (false, eval e Z.X.env) :: starEach [] Z.X.env := by rfl)
    (hs2 : starEach [.Call (.Name "set" p1) [e] [] p2] Z.X.env = (false, eval (.Call (.Name "set" p1) [e] [] p2) Z.X.env) :: starEach [] Z.X.env := by rfl) :
    ME Z (.Call (.Name "sorted" p3) [.Call (.Name "set" p1) [e] [] p2] [] p4) (mUn (sortSetW b) m) p true := by
  have h1 := pe_callTy (p := p1) (pos := p2) (cr_setI hc) hg2 hm2 (show bootBuiltins "set" = some (.type "set") by decide +kernel) (pa_cons ha pa_nil hs) (by decide) (by decide) hs rfl
  have h2 := pe_callB (p := p3) (pos := p4) (cr_sortedSet hc) hg hm PyProof.Rows.boot_sorted (pa_cons h1 pa_nil hs2) (by decide) (by decide) hs2 rfl
  refine pe_imp h2 fun σ H Q q => tx_un (r := fun x H1 Q => rSetI Z.X.K Z.X.w [x] H1 fun y H2 => rSortedSet Z.X.w [y] H2 Q) (fun G H w1 v1 O1 w Q s r e q => ?_) q
  unfold sortSetW at e
  cases h : lisW w1 with
  | none => rw [h] at e; cases e
  | some ws =>
    cases h2 : intsW ws with
    | none => rw [h, Option.bind_some, h2] at e; cases e
    | some ns =>
      rw [h, Option.bind_some, h2, Option.bind_some] at e
      by_cases h64 : ns.length < 64
      · rw [if_pos h64] at e
        cases e
        obtain ⟨a, vs, rfl, h3, h4⟩ := lisW_at s r h
        rw [intsW_eq h2] at h4
        rw [RFs.ints h4] at h3
        refine ⟨a, ns, rfl, h3, h64, fun y c ny hc => ⟨y, _, c, rfl, upd_same, by omega, fun out z up mem _ nz => ?_⟩⟩
        have eo : out = sortSet ns := up_unique up (sortSet_up ns) fun k => by rw [mem, mem_sortSet, decide_eq_true_eq]
        subst eo
        exact (q.on ny).lst (sub_upd s ny) (rfs_ints _) nz
      · rw [if_neg h64] at e; cases e
end
/-! ### a def that calls itself: at no depth -/
theorem fnt_bad {P : Program} {w : World} {K : PySem.W.Frag} {mg : Str → Option Value} {base : Heap} {CA : Nat → Addr} {x qual : Str} {st : Stmt} {f : Addr} {fd : FuncData} {ps : List Str} {k n : Nat} (F : Fun K x qual st f fd) (g : mg x = some (.ref f)) (hb : Binds K fd ps []) (hps : ps.length = n) : FnT P w K mg base CA x n k (fun _ => .bad) :=
  ⟨f, fd, ps, ⟨fun vs H Q E h => by rw [h.1, hps], fun A outer s H args us vs Q E _ _ _ _ hsp => by
    obtain ⟨_, _, _, _, _, _, _, _, z⟩ := hsp
    exact z.elim⟩, g, F.kp, hb⟩
end Ev

namespace Ev
open PySem PySem.Spec L2

/-- a loop, by what holds between the turns -/
theorem mFor_inv {α : Type} {f : Tg} {body : Sm Fl} {kill : List Nat} (e : α → W) (I : Nat → List W → Prop) : ∀ {xs : List α} {env : List W}, I xs.length env →
    (∀ x ∈ xs, ∀ n env, I (n + 1) env → ∃ env', turn f body kill (e x) env = .ok .nx env' ∧ I n env') → ∃ env', mFor f body kill (xs.map e) env = .ok .nx env' ∧ I 0 env'
  | [], env, i, _ => ⟨env, rfl, i⟩
  | x :: xs, env, i, h => by
    obtain ⟨env1, h1, h2⟩ := h x List.mem_cons_self _ env i
    rw [List.map_cons, mFor_cons, h1]
    exact mFor_inv e I h2 fun y hy => h y (List.mem_cons_of_mem _ hy)
theorem sortedW_of {α : Type} {e : α → W} {n : Nat} (h : EncOk e n) (hn : n ≤ 60) (le : α → α → Bool) (hle : ∀ a b, leD (e a) (e b) = le a b) (ha : ∀ a b, PySem.W.alike (e a).dat (e b).dat = true) (hs : ∀ a, ∃ x r, (e a).dat = .tuple (x :: r)) (b c : Bool) (xs : List α) (hl : xs.length ≤ sizeLine) :
    sortedW b (.lst c (xs.map e)) = some (.lst b ((xs.mergeSort le).map e)) := by
  unfold sortedW lisW
  rw [Option.bind_some]
  have ok : SortOk (xs.map e) := by
    refine ⟨?_, ?_, by rw [List.length_map]; exact hl, fun w hw => ?_⟩
    · rw [List.map_map]; exact PySem.W.AllAlike.of fun a b => ha a b
    · rw [List.map_map]; exact PySem.W.Sortable.tuples fun a => hs a
    · obtain ⟨a, _, rfl⟩ := List.mem_map.mp hw
      exact Nat.le_trans (h.dep a) hn
  rw [if_pos ok, PySem.W.sort_maps e (s := leD) fun a _ b _ => (hle a b).symm]
theorem sortedW_int (b c : Bool) (xs : List Int) (hl : xs.length ≤ sizeLine) : sortedW b (.lst c (xs.map W.int)) = some (.lst b ((xs.mergeSort fun a b => decide (a ≤ b)).map W.int)) := by
  unfold sortedW lisW
  rw [Option.bind_some]
  have ok : SortOk (xs.map W.int) := by
    refine ⟨?_, ?_, by rw [List.length_map]; exact hl, fun w hw => ?_⟩
    · rw [List.map_map]; exact PySem.W.AllAlike.of fun a b => by simp [W.dat, PySem.W.alike]
    · rw [List.map_map]; exact PySem.W.Sortable.others fun a => ⟨fun z => by simp [W.dat] at z, fun xs z => by simp [W.dat] at z⟩
    · obtain ⟨a, _, rfl⟩ := List.mem_map.mp hw
      simp [W.dat, PyData.depth]
  rw [if_pos ok, PySem.W.sort_maps W.int (s := leD) fun a _ b _ => by
    show _ = PySem.W.dataLe false W.dat (.int a) (.int b)
    show _ = (!PySem.W.dataLt (.int b) (.int a))
    rw [PySem.W.dataLt_int, PySem.W.not_lt_int]]
/-! ### things, rows, names -/
abbrev Th := Int × Str
abbrev Nm := Int × Nat × Nat
def encT (t : Th) : W := .tup [.int t.1, .str t.2]
def encR (r : List Th) : W := .lst false (r.map encT)
def encN (n : Nm) : W := .tup [.int n.1, .int (n.2.1 : Nat), .int (n.2.2 : Nat)]
theorem okT : EncOk encT 1 := EncOk.pair EncOk.int EncOk.str
theorem okR : EncOk encR 2 := EncOk.lst okT
theorem okN : EncOk encN 1 := EncOk.three EncOk.int EncOk.nat EncOk.nat
theorem frzT (t : Th) : (encT t).frz = true := rfl
theorem frzR (t : List Th) : (encR t).frz = true := rfl
theorem frzN (t : Nm) : (encN t).frz = true := rfl
def leT (a b : Th) : Bool := leD (encT a) (encT b)
theorem sortT (b c : Bool) (r : List Th) (hl : r.length ≤ sizeLine) : sortedW b (.lst c (r.map encT)) = some (.lst b ((r.mergeSort leT).map encT)) :=
  sortedW_of okT (by decide) leT (fun _ _ => rfl) (fun a b => by simp [encT, W.dat, datL, PySem.W.alike, PySem.W.alikeAll]) (fun a => ⟨_, _, by simp only [encT, W.dat, datL]; rfl⟩) b c r hl
def ltN (a b : Nm) : Prop := a.1 < b.1 ∨ (a.1 = b.1 ∧ (a.2.1 < b.2.1 ∨ (a.2.1 = b.2.1 ∧ a.2.2 < b.2.2)))
instance {a b : Nm} : Decidable (ltN a b) := inferInstanceAs (Decidable (_ ∨ _))
def leN (a b : Nm) : Bool := !decide (ltN b a)
theorem alikeN (a b : Nm) : PySem.W.alike (encN a).dat (encN b).dat = true := by simp [encN, W.dat, datL, PySem.W.alike, PySem.W.alikeAll]
theorem dataLtN (a b : Nm) : PySem.W.dataLt (encN a).dat (encN b).dat = decide (ltN a b) := by
  have e0 : PyProof.Rows.lexLt PyProof.Rows.itemOrd (PySem.W.keyToksAll []) (PySem.W.keyToksAll []) = false := PyProof.Rows.lex_irrefl _
  simp only [encN, W.dat, datL]
  rw [PySem.W.dataLt_tuple, PySem.W.dataLt_cons (by simp [PySem.W.alike]), PySem.W.dataLt_cons (by simp [PySem.W.alike]), PySem.W.dataLt_cons (by simp [PySem.W.alike]), e0]
  simp only [PySem.W.dataLt_int, PyData.eqv, beq_iff_eq]
  by_cases h1 : a.1 = b.1
  · rw [if_pos h1]
    by_cases h2 : ((a.2.1 : Nat) : Int) = ((b.2.1 : Nat) : Int)
    · rw [if_pos h2]
      by_cases h3 : ((a.2.2 : Nat) : Int) = ((b.2.2 : Nat) : Int)
      · rw [if_pos h3]
        symm
        apply decide_eq_false
        unfold ltN
        omega
      · rw [if_neg h3]
        apply decide_eq_decide.mpr
        unfold ltN
        omega
    · rw [if_neg h2]
      apply decide_eq_decide.mpr
      unfold ltN
      omega
  · rw [if_neg h1]
    apply decide_eq_decide.mpr
    unfold ltN
    omega
theorem sortN (b c : Bool) (l : List Nm) (hl : l.length ≤ sizeLine) : sortedW b (.lst c (l.map encN)) = some (.lst b ((l.mergeSort leN).map encN)) :=
  sortedW_of okN (by decide) leN (fun a b => by
    show (!PySem.W.dataLt (encN b).dat (encN a).dat) = _
    rw [dataLtN]
    rfl) alikeN (fun a => ⟨_, _, by simp only [encN, W.dat, datL]; rfl⟩) b c l hl
theorem w_ltN (a b : Nm) : ltW (encN a) (encN b) = some (.bl (decide (ltN a b))) := by
  show ltD (encN a) (encN b) = _
  unfold ltD
  rw [if_pos ⟨rfl, .inl (Nat.le_trans (okN.dep a) (by decide)), alikeN a b, rfl⟩, dataLtN]
theorem leN_iff (a b : Nm) : leN a b = true ↔ ¬ ltN b a := by unfold leN; simp
theorem leN_trans (a b c : Nm) (h1 : leN a b = true) (h2 : leN b c = true) : leN a c = true := by
  rw [leN_iff] at *
  unfold ltN at *
  omega
theorem leN_total (a b : Nm) : (leN a b || leN b a) = true := by
  rw [Bool.or_eq_true, leN_iff, leN_iff]
  unfold ltN
  omega
theorem leN_anti (a b : Nm) (h1 : leN a b = true) (h2 : leN b a = true) : a = b := by
  rw [leN_iff] at *
  unfold ltN at *
  have e1 : a.1 = b.1 := by omega
  have e2 : a.2.1 = b.2.1 := by omega
  have e3 : a.2.2 = b.2.2 := by omega
  exact Prod.ext e1 (Prod.ext e2 e3)
/-- of an order without ties there is one sorted list -/
theorem sorted_one {α : Type} {le : α → α → Bool} (anti : ∀ a b, le a b = true → le b a = true → a = b) : ∀ {l m : List α}, l.Perm m → l.Pairwise (fun a b => le a b = true) → m.Pairwise (fun a b => le a b = true) → l = m
  | [], m, p, _, _ => (List.nil_perm.mp p).symm
  | a :: l, m, p, h1, h2 => by
    cases m with
    | nil => exact absurd p.symm (by simp)
    | cons b m =>
      obtain ⟨a1, a2⟩ := List.pairwise_cons.mp h1
      obtain ⟨b1, b2⟩ := List.pairwise_cons.mp h2
      have e : a = b := by
        rcases List.mem_cons.mp (p.mem_iff.mp List.mem_cons_self) with z | z
        · exact z
        · rcases List.mem_cons.mp (p.mem_iff.mpr List.mem_cons_self) with z2 | z2
          · exact z2.symm
          · exact anti a b (a1 b z2) (b1 a z)
      subst e
      rw [sorted_one anti (List.perm_cons a |>.mp p) a2 b2]
def srt (l : List Nm) : List Nm := l.mergeSort leN
theorem srt_up (l : List Nm) : (srt l).Pairwise (fun a b => leN a b = true) := List.pairwise_mergeSort leN_trans leN_total l
theorem srt_perm (l : List Nm) : (srt l).Perm l := List.mergeSort_perm l leN
theorem srt_eq {l m : List Nm} (p : m.Perm l) (h : m.Pairwise (fun a b => leN a b = true)) : m = srt l := sorted_one leN_anti (p.trans (srt_perm l).symm) h (srt_up l)
theorem srt_filter (p : Nm → Bool) (l : List Nm) : (srt l).filter p = srt (l.filter p) := srt_eq ((srt_perm l).filter p) ((srt_up l).sublist List.filter_sublist)
theorem srt_of_perm {l m : List Nm} (p : l.Perm m) : srt l = srt m := srt_eq ((srt_perm l).trans p) (srt_up l)
theorem srt_len (l : List Nm) : (srt l).length = l.length := (srt_perm l).length_eq
theorem w_cutS (b : Bool) (z : Str) (lo hi : Option Int) (h : z.length ≤ sizeLine) : cutW b (.str z) lo hi = some (.str (cutS z lo hi)) := by
  show (if z.length ≤ sizeLine then some (W.str (cutS z lo hi)) else none) = _
  rw [if_pos h]
end Ev

namespace Ev
open PySem PySem.Spec L2

/-! ### walking a tuple -/
theorem walks_tup {D : Dn} {G0 : Hp} {a : Addr} {ws : List W} {vs : List V} (h : SqT D.K G0 a vs) (r : RFs D G0 ws vs) : Walks D (Itt D.K a) ws G0 := fun i G H s0 s => by
  have hs : SqT D.K H a vs := s.sqT (s0.sqT h)
  refine ⟨fun x e => ?_, fun hl => ⟨vs, hs, by rw [← r.len]; exact hl⟩⟩
  obtain ⟨v, h1, h2⟩ := r.get e
  refine ⟨⟨vs, v, hs, h1⟩, fun v' H' y => ?_⟩
  obtain ⟨rfl, y⟩ := y
  have e2 : v' = v := Option.some.inj ((y vs hs).symm.trans h1)
  subst e2
  exact ⟨G, Step.refl _ _ _, s, RF.mono s0 _ _ h2⟩
def tupL : W → Option (List W)
  | .tup ws => some ws
  | _ => none
def iTupM (m : Sm W) : Sm (List W) := Sm.bind m fun w => lft (tupL w)
theorem r_itup {env : List W} (m : Sm W) : iTupM m env = match m env with
  | .ok w e' => (match tupL w with
    | some r => .ok r e'
    | none => .bad)
  | .ex c e' => .ex c e'
  | .bad => .bad := by
  unfold iTupM
  rw [r_bind]
  cases m env with
  | ok w e' => dsimp only; rw [r_lft]; cases tupL w <;> rfl
  | _ => rfl
theorem w_tupLt (ws : List W) : tupL (.tup ws) = some ws := rfl
theorem mi_tup {Z : Zt} {tg e : Expr} {m : Sm W} {p k : Bool} (h : ME Z e m p k) : MI Z tg e (iTupM m) p := pi_imp (pi_tup h) fun σ H R q => by
  obtain ⟨env, G, Os, s, q⟩ := q
  refine ⟨env, G, Os, s, ?_⟩
  unfold iTupM Sm.bind lft at q
  cases e : m env with
  | bad => rw [e] at q; exact q
  | ex c env1 => rw [e] at q; exact q
  | ok w env1 =>
    rw [e] at q
    intro v G' H' Os' Ow s' r o t
    have t' := t.less (O2 := []) kO_less
    cases w with
    | tup ws =>
      obtain ⟨rfl, a, vs, rfl, h1, h2⟩ := r
      exact ⟨a, rfl, ⟨vs, s'.sub.sqT h1⟩, q _ G' H' Os' s' t' (walks_tup h1 h2)⟩
    | _ => exact q.elim
/-! ### a <= b, tuples too -/
def leXD (a b : W) : Option W := if (a.fd && b.fd) = true ∧ smallD a b ∧ PySem.W.alike a.dat b.dat = true then some (.bl (!PySem.W.dataLt b.dat a.dat)) else none
def leXW : W → W → Option W
  | .int i, .int j => some (.bl (decide (i ≤ j)))
  | .tup xs, .tup ys => leXD (.tup xs) (.tup ys)
  | _, _ => none
theorem w_leX (i j : Int) : leXW (.int i) (.int j) = some (.bl (decide (i ≤ j))) := rfl
theorem op_leXW {Z : Zt} {k : Nat} (hr : Room k Z.X.A) : OpS Z (compareOp .LtE) leXW := fun G H w1 w2 v1 v2 O1 O2 w Q s r1 r2 e q => by
  cases w1 with
  | int i =>
    cases w2 with
    | int j =>
      cases e
      obtain ⟨_, rfl⟩ := r1
      obtain ⟨_, rfl⟩ := r2
      exact ⟨_, op_le, i, j, rfl, rfl, q.bl s⟩
    | _ => cases e
  | tup xs =>
    cases w2 with
    | tup ys =>
      have e' : leXD (.tup xs) (.tup ys) = some w := e
      unfold leXD at e'
      by_cases hc : ((W.tup xs).fd && (W.tup ys).fd) = true ∧ smallD (.tup xs) (.tup ys) ∧ PySem.W.alike (W.tup xs).dat (W.tup ys).dat = true
      · rw [if_pos hc] at e'
        cases e'
        obtain ⟨_, hs, ha⟩ := hc
        have d1 := r1.dp s rfl
        have d2 := r2.dp s rfl
        refine ⟨fun x y H' Q' => x = v1 ∧ y = v2 ∧ H' = H ∧ Q' (.bl (!PySem.W.dataLt (W.tup ys).dat (W.tup xs).dat)) H, fun pins st σ H' x y v u Q' I rx ry hh => ?_, rfl, rfl, rfl, q.bl s⟩
        obtain ⟨rfl, rfl, rfl, hq⟩ := hh
        obtain ⟨as, x1⟩ := Dp.reads I _ _ v d1 rx
        obtain ⟨bs, x2⟩ := Dp.reads I _ _ u d2 ry
        have := hs.min
        have := hr.units
        exact PySem.W.rcLe_alike _ _ Z.X.A st v u as bs x1 x2 ha (fun z => nomatch z) (by omega) _ _ _ _ ⟨.bl _, _, I, rfl, hq⟩
      · rw [if_neg hc] at e'; cases e'
    | _ => cases e
  | _ => cases e
theorem w_leN (a b : Nm) : leXW (encN a) (encN b) = some (.bl (leN a b)) := by
  show leXD (encN a) (encN b) = _
  unfold leXD
  rw [if_pos ⟨rfl, .inl (Nat.le_trans (okN.dep a) (by decide)), alikeN a b⟩, dataLtN]
  rfl
/-! ### a > b of names -/
theorem w_gtN (a b : Nm) : gtW (encN a) (encN b) = some (.bl (decide (ltN b a))) := by
  show some (W.bl (Ob.lexAt (fun j => decide (([a.1, (a.2.1 : Int), (a.2.2 : Int)] : List Int).getD j 0 = ([b.1, (b.2.1 : Int), (b.2.2 : Int)] : List Int).getD j 0)) (fun j => decide (([b.1, (b.2.1 : Int), (b.2.2 : Int)] : List Int).getD j 0 < ([a.1, (a.2.1 : Int), (a.2.2 : Int)] : List Int).getD j 0)) false 0 3)) = _
  refine congrArg (fun x => some (W.bl x)) ?_
  simp only [Ob.lexAt, List.getD_cons_zero, List.getD_cons_succ, Nat.zero_add, Nat.reduceAdd, decide_eq_true_eq]
  repeat' split
  all_goals first
    | (apply decide_eq_decide.mpr; unfold ltN; omega)
    | (symm; apply decide_eq_false; unfold ltN; omega)
/-! ### a slot's value, also where it stands under a name -/
def pickV : Option W → List W → Out W
  | some .dead, _ => .bad
  | some w, env => .ok w env
  | none, _ => .bad
theorem r_var2 {env : List W} (i : Nat) : mVar i env = pickV env[i]? env := by
  rw [r_var]
  cases env[i]? with
  | none => rfl
  | some w => cases w <;> rfl
theorem pick_non (env : List W) : pickV (some .non) env = .ok .non env := rfl
theorem pick_bl (b : Bool) (env : List W) : pickV (some (.bl b)) env = .ok (.bl b) env := rfl
theorem pick_int (i : Int) (env : List W) : pickV (some (.int i)) env = .ok (.int i) env := rfl
theorem pick_str (i : Str) (env : List W) : pickV (some (.str i)) env = .ok (.str i) env := rfl
theorem pick_tup (i : List W) (env : List W) : pickV (some (.tup i)) env = .ok (.tup i) env := rfl
theorem pick_lst (b : Bool) (i : List W) (env : List W) : pickV (some (.lst b i)) env = .ok (.lst b i) env := rfl
theorem pick_scr (i : List W) (env : List W) : pickV (some (.scr i)) env = .ok (.scr i) env := rfl
theorem pick_exc (i : Nat) (env : List W) : pickV (some (.exc i)) env = .ok (.exc i) env := rfl
theorem pick_dct (a : Bool) (b : DKs) (c : List W) (env : List W) : pickV (some (.dct a b c)) env = .ok (.dct a b c) env := rfl
theorem pick_T (t : Th) (env : List W) : pickV (some (encT t)) env = .ok (encT t) env := rfl
theorem pick_R (t : List Th) (env : List W) : pickV (some (encR t)) env = .ok (encR t) env := rfl
theorem pick_N (t : Nm) (env : List W) : pickV (some (encN t)) env = .ok (encN t) env := rfl
theorem flatT (t : Th) : (encT t).flat = true := rfl
theorem flatN (t : Nm) : (encN t).flat = true := rfl
end Ev

namespace Ev
open PySem PySem.Spec L2

/-! ### walking a list or a tuple -/
theorem pi_or {X : Cx} {tg e : Expr} {t1 t2 : TI} (h1 : PI X tg e t1) (h2 : PI X tg e t2) : PI X tg e (fun σ H R => t1 σ H R ∨ t2 σ H R) := ⟨fun pins s σ H R I h => h.elim (h1.run pins s σ H R I) (h2.run pins s σ H R I)⟩
def seqL : W → Option (List W)
  | .lst false ws => some ws
  | .scr ws => some ws
  | .tup ws => some ws
  | _ => none
def iSeq (m : Sm W) : Sm (List W) := Sm.bind m fun w => lft (seqL w)
theorem r_iseq {env : List W} (m : Sm W) : iSeq m env = match m env with
  | .ok w e' => (match seqL w with
    | some r => .ok r e'
    | none => .bad)
  | .ex c e' => .ex c e'
  | .bad => .bad := by
  unfold iSeq
  rw [r_bind]
  cases m env with
  | ok w e' => dsimp only; rw [r_lft]; cases seqL w <;> rfl
  | _ => rfl
theorem w_seqL (ws : List W) : seqL (.lst false ws) = some ws := rfl
theorem w_seqT (ws : List W) : seqL (.tup ws) = some ws := rfl
theorem w_seqC (ws : List W) : seqL (.scr ws) = some ws := rfl
theorem iSeq_or {D : Dn} {Wx : WX} {p : Bool} {m : Sm W} {σ : L2.St} {H : Hp} {R : It → Hp → Prop} (q : TIx D Wx p (iSeq m) σ H R) : TIx D Wx p (iLst m) σ H R ∨ TIx D Wx p (iTupM m) σ H R := by
  obtain ⟨env, G, Os, s, q⟩ := q
  unfold iSeq Sm.bind lft at q
  cases e : m env with
  | bad => rw [e] at q; exact q.elim
  | ex c env1 =>
    rw [e] at q
    refine .inl ⟨env, G, Os, s, ?_⟩
    unfold iLst Sm.bind
    rw [e]
    exact q
  | ok w env1 =>
    rw [e] at q
    cases w with
    | tup ws =>
      refine .inr ⟨env, G, Os, s, ?_⟩
      unfold iTupM Sm.bind lft
      rw [e]
      exact q
    | lst b ws =>
      cases b with
      | true => exact q.elim
      | false =>
        refine .inl ⟨env, G, Os, s, ?_⟩
        unfold iLst Sm.bind lft
        rw [e]
        exact q
    | scr ws =>
      refine .inl ⟨env, G, Os, s, ?_⟩
      unfold iLst Sm.bind lft
      rw [e]
      exact q
    | _ => exact q.elim
theorem mi_seq {Z : Zt} {tg e : Expr} {m : Sm W} {p k : Bool} (h : ME Z e m p k) : MI Z tg e (iSeq m) p := pi_imp (pi_or (mi_list h) (mi_tup h)) fun _ _ _ q => iSeq_or q
/-! ### zip of two lists or two tuples -/
def zipA : List W → Option (List W)
  | [.tup ws, .tup xs] => some ((ws.zip xs).map fun q => .tup [q.1, q.2])
  | [w, x] => zipL [w, x]
  | _ => none
theorem w_zipT (ws xs : List W) : zipA [.tup ws, .tup xs] = some ((ws.zip xs).map fun q => .tup [q.1, q.2]) := rfl
theorem w_zipA (ws xs : List W) : zipA [.lst false ws, .lst false xs] = some ((ws.zip xs).map fun q => .tup [q.1, q.2]) := rfl
theorem walks_zipT {D : Dn} {G0 : Hp} {a b : Addr} {ws xs : List W} {vs us : List V} (h : SqT D.K G0 a vs) (r : RFs D G0 ws vs) (h' : SqT D.K G0 b us) (r' : RFs D G0 xs us) : Walks D (RZ.ItzT D.K a b) ((ws.zip xs).map fun q => .tup [q.1, q.2]) G0 := fun i G H s0 s => by
  have hs : SqT D.K H a vs := s.sqT (s0.sqT h)
  have hs' : SqT D.K H b us := s.sqT (s0.sqT h')
  refine ⟨fun x e => ?_, fun hl => ⟨vs, us, hs, hs', ?_⟩⟩
  · rw [List.getElem?_map] at e
    cases e1 : (ws.zip xs)[i]? with
    | none => rw [e1] at e; cases e
    | some w =>
      rw [e1] at e
      cases e
      obtain ⟨k1, k2⟩ := List.getElem?_zip_eq_some.mp e1
      obtain ⟨v, h1, h2⟩ := r.get k1
      obtain ⟨u, g1, g2⟩ := r'.get k2
      refine ⟨⟨vs, us, v, u, hs, hs', h1, g1⟩, fun v' H' y => ?_⟩
      obtain ⟨T, x, y', rfl, nT, rfl, y1, y2⟩ := y
      have e2 : x = v := Option.some.inj ((y1 vs hs).symm.trans h1)
      have e3 : y' = u := Option.some.inj ((y2 us hs').symm.trans g1)
      subst e2 e3
      have st := step_frz (o := .tup [x, y']) s nT
      refine ⟨_, st, sub_upd2 s, T, _, rfl, SqT.of upd_same, ?_⟩
      exact ⟨_, _, rfl, RF.mono (s0.trans st.mono) _ _ h2, _, _, rfl, RF.mono (s0.trans st.mono) _ _ g2, rfl⟩
  · rw [List.length_map, List.length_zip] at hl
    rw [← r.len, ← r'.len]
    omega
theorem zipA_at {D : Dn} {G H : Hp} {ws xs : List W} {vs : List V} {Q : Addr → Addr → Prop} (s : Sub G H) (r : RFs D G ws vs) (e : zipA ws = some xs)
    (hL : ∀ (a b : Addr) (us us' : List V) (ys zs : List W), vs = [.ref a, .ref b] → SqL D.K G a us → RFs D G ys us → SqL D.K G b us' → RFs D G zs us' → xs = ((ys.zip zs).map fun q => W.tup [q.1, q.2]) → Q a b)
    (hT : ∀ (a b : Addr) (us us' : List V) (ys zs : List W), vs = [.ref a, .ref b] → SqT D.K G a us → RFs D G ys us → SqT D.K G b us' → RFs D G zs us' → xs = ((ys.zip zs).map fun q => W.tup [q.1, q.2]) → Q a b) : ∃ a b, vs = [.ref a, .ref b] ∧ Q a b := by
  unfold zipA at e
  split at e
  · rename_i ys zs
    cases e
    obtain ⟨v, _, rfl, ⟨a, us, rfl, h1, h2⟩, u, _, rfl, ⟨b, us', rfl, h3, h4⟩, h5⟩ := r
    cases h5
    exact ⟨a, b, rfl, hT a b us us' ys zs rfl h1 h2 h3 h4 rfl⟩
  · rename_i w x _
    unfold zipL at e
    dsimp only at e
    cases e1 : frzL w with
    | none => rw [e1] at e; cases e
    | some ys =>
      cases e2 : frzL x with
      | none => rw [e1, Option.bind_some, e2] at e; cases e
      | some zs =>
        rw [e1, Option.bind_some, e2] at e
        cases e
        obtain ⟨v, _, rfl, h1, u, _, rfl, h2, h3⟩ := r
        cases h3
        obtain ⟨a, us, rfl, h3, h4⟩ := frzL_at h1 e1
        obtain ⟨b, us', rfl, h5, h6⟩ := frzL_at h2 e2
        exact ⟨a, b, rfl, hL a b us us' ys zs rfl h3 h4 h5 h6 rfl⟩
  · cases e
theorem mi_zipA {Z : Zt} {a b : Expr} {m : Sm (List W)} {p : Bool} {p1 p2 : Pos} {elts : List Expr} {kk : Nat} {tpos : Pos} (hm : Z.X.mg "zip" = none) (ha : MA Z [a, b] m p) (hg : Gl Z.X "zip" := by rfl) (hs : starEach [a, b] Z.X.env = (false, eval a Z.X.env) :: starEach [b] Z.X.env := by rfl) (hpl : (backTo p2 (starEach [b] Z.X.env)).any (·.1) = false := by rfl) :
    MI Z (.Tuple elts kk tpos) (.Call (.Name "zip" p1) [a, b] [] p2) (iArgs zipA m) p :=
  pi_imp (RZ.pi_zipA hg hm ha hs hpl) fun σ H R q => ta_iter (r := fun vs H1 R => ∃ a b xs ys, vs = [.ref a, .ref b] ∧ ((SqL Z.X.K H1 a xs ∧ SqL Z.X.K H1 b ys ∧ R (Itz Z.X.K a b) H1) ∨ (SqT Z.X.K H1 a xs ∧ SqT Z.X.K H1 b ys ∧ R (RZ.ItzT Z.X.K a b) H1))) (fun G H ws xs vs R s r e q => by
    obtain ⟨a, b, rfl, us, us', h⟩ := zipA_at (Q := fun a b => ∃ us us', (SqL Z.X.K H a us ∧ SqL Z.X.K H b us' ∧ R (Itz Z.X.K a b) H) ∨ (SqT Z.X.K H a us ∧ SqT Z.X.K H b us' ∧ R (RZ.ItzT Z.X.K a b) H)) s r e
      (fun a b us us' ys zs _ h1 h2 h3 h4 e => ⟨us, us', .inl ⟨s.sqL h1, s.sqL h3, q _ (by rw [e]; exact walks_zip h1 h2 h3 h4)⟩⟩)
      (fun a b us us' ys zs _ h1 h2 h3 h4 e => ⟨us, us', .inr ⟨s.sqT h1, s.sqT h3, q _ (by rw [e]; exact walks_zipT h1 h2 h3 h4)⟩⟩)
    exact ⟨a, b, us, us', rfl, h⟩) q
end Ev

namespace Ev
open PySem PySem.Spec PyProof.Rows L2
open Builtin Builtin.Str
/-! ### a text turned about -/
def revZ (z : Str) : Str := Txt.sliceBy z none none (-1, 0)
theorem revZ_le (z : Str) : (revZ z).length ≤ z.length := Txt.sliceBy_le z none none (-1, 0) (by decide)
def tRevZ (te : TE) : TE := fun σ H Q => te σ H fun x H1 => ∃ z, x = .str z ∧ z.length ≤ sizeLine ∧ Q (.str (revZ z)) H1
theorem pe_revZ {X : Cx} {e : Expr} {te : TE} {k : Nat} {p1 p2 p3 pos : Pos} (he : PE X e te) : PE X (.Subscript e (.Slice none none (some (.UnaryOp .USub (.Constant (.int 1) k p1) p2)) p3) pos) (tRevZ te) := by
  refine ⟨fun pins s σ H Q I h => ?_⟩
  refine Subscript_ (thn (he.run pins s σ H _ I h) fun v s1 ⟨x, H1, I1, r1, q1⟩ => ?_)
  obtain ⟨z, ex, hz, q⟩ := q1
  subst ex
  obtain ⟨t, rfl⟩ := r1
  have hst : PO X (some (.UnaryOp .USub (.Constant (.int 1) k p1) p2)) (tPart (tUn (rU fun i => .int (-i)) (tC (.int 1)))) := po_some (pe_un un_neg pe_int)
  refine wpAny_Slice (thn (po_none.run pins s1 σ H1 (fun o H2 => o = none ∧ H2 = H1) I1 ⟨rfl, rfl⟩) fun vl s2 ⟨l, H2, I2, pl, el, e2⟩ => ?_)
  subst el e2
  refine thn (po_none.run pins s2 σ H2 (fun o H3 => o = none ∧ H3 = H2) I2 ⟨rfl, rfl⟩) fun vu s3 ⟨u, H3, I3, pu, eu, e3⟩ => ?_
  subst eu e3
  refine thn (hst.run pins s3 σ H3 (fun o H4 => o = some (-1) ∧ H4 = H3) I3 ⟨1, rfl, -1, rfl, rfl, rfl⟩) fun vs s4 ⟨o, H4, I4, ps, eo, e4⟩ => ?_
  subst eo e4
  have I5 : Inv X pins σ H4 { s4 with heap := s4.heap.push { cls := .type "slice", data := .fields #[vl, vu, vs] } } := I4.kept (t' := s4.toks) fun b ob q => Heap.get?_push_of_some _ q
  obtain ⟨l0, rfl, e0⟩ := IsPart.raw pl
  obtain ⟨u0, rfl, e1⟩ := IsPart.raw pu
  obtain ⟨s0, rfl, e2⟩ := IsPart.raw ps
  show wpAny (model X.prog X.w) X.A (subscriptTail e (.Slice none none (some (.UnaryOp .USub (.Constant (.int 1) k p1) p2)) p3) (.str z t) (.ref s4.heap.objs.size)) (EP X pins σ Q) X.xe _
  refine tail_any (typeIs_str _ z t) PySem.F.slot_str_getitem.lookup ?_ (by with_unfolding_all rfl)
  cases l0 with
  | some _ => cases e0
  | none =>
    cases u0 with
    | some _ => cases e1
    | none =>
      cases s0 with
      | none => cases e2
      | some st =>
        obtain ⟨k0, uk⟩ := st
        have ek : k0 = -1 := by
          simp only [Option.map_some] at e2
          exact Option.some.inj e2
        subst ek
        refine wpAny_getItem_str_slice (l := none) (u := none) (st := some (-1, uk)) ⟨_, Heap.get?_push_size _ rfl, rfl, rfl⟩ rfl ?_
        exact post_val_or_str ⟨Nat.le_trans (Txt.sliceBy_le z none none (-1, uk) (by show (-1 : Int) ≠ 0; decide)) hz, fun t' c => ⟨.str _, H4, I5.tok _, ⟨_, rfl⟩, q⟩⟩
def revZW : W → Option W
  | .str z => if z.length ≤ sizeLine then some (.str (revZ z)) else none
  | _ => none
theorem me_revZ {Z : Zt} {e : Expr} {m : Sm W} {p k1 : Bool} {j : Nat} {q1 q2 q3 q4 : Pos} (he : ME Z e m p k1) : ME Z (.Subscript e (.Slice none none (some (.UnaryOp .USub (.Constant (.int 1) j q1) q2)) q3) q4) (mUn revZW m) p true :=
  pe_imp (pe_revZ he) fun σ H Q hq => tx_un (r := fun x H1 Q => ∃ z, x = .str z ∧ z.length ≤ sizeLine ∧ Q (.str (revZ z)) H1) (fun G H w1 v1 O1 w Q s r1 e q => by
    cases w1 with
    | str z =>
      simp only [revZW] at e
      by_cases h : z.length ≤ sizeLine
      · rw [if_pos h] at e
        cases e
        obtain ⟨rfl, f⟩ := r1.toF rfl
        have f' : v1 = .str z := f
        exact ⟨z, f', h, q.str s⟩
      · rw [if_neg h] at e; cases e
    | _ => cases e) hq
/-! ### xs[lo::2] -/
def sIdx (lo : Option Int) (n : Nat) : List Nat := sliceRange (sliceBounds lo none (some 2) n).1 (sliceBounds lo none (some 2) n).2.1 (sliceBounds lo none (some 2) n).2.2
def pick2 {α : Type} (lo : Option Int) (xs : List α) : List α := (sIdx lo xs.length).filterMap (xs[·]?)
theorem pick2_len {α : Type} (lo : Option Int) (xs : List α) : (pick2 lo xs).length ≤ xs.length := by
  refine Nat.le_trans (List.length_filterMap_le _ _) ?_
  unfold sIdx
  refine sliceRange_length_le _ _ _ _ (fun _ => ?_) fun hc => absurd (by show (2 : Int) > 0; decide) hc
  simp only [sliceBounds, Option.getD_some, show (2 : Int) > 0 by decide, if_true]
  constructor
  · cases lo with
    | none => simp
    | some i => dsimp only; omega
  · omega
theorem pick2_map {α β : Type} (f : α → β) (lo : Option Int) (xs : List α) : pick2 lo (xs.map f) = (pick2 lo xs).map f := by
  unfold pick2
  rw [List.length_map, List.map_filterMap]
  congr 1
  funext i
  rw [List.getElem?_map]
theorem RFs.pick {D : Dn} {G : Hp} {ws : List W} {vs : List V} (h : RFs D G ws vs) : ∀ l : List Nat, RFs D G (l.filterMap (ws[·]?)) (l.filterMap (vs[·]?))
  | [] => rfl
  | i :: l => by
    rw [List.filterMap_cons, List.filterMap_cons]
    cases e : ws[i]? with
    | none =>
      have hl := h.len
      have : vs[i]? = none := by rw [List.getElem?_eq_none_iff] at e ⊢; omega
      rw [this]
      exact RFs.pick h l
    | some w =>
      obtain ⟨v, hv, hr⟩ := h.get e
      rw [hv]
      exact ⟨v, _, rfl, hr, RFs.pick h l⟩
theorem Vals.pick {xs : List V} {us : List Value} (h : Vals xs us) : ∀ l : List Nat, Vals (l.filterMap (xs[·]?)) (l.filterMap (us[·]?))
  | [] => .nil
  | i :: l => by
    rw [List.filterMap_cons, List.filterMap_cons]
    cases e : xs[i]? with
    | none =>
      rw [h.none_of e]
      exact Vals.pick h l
    | some x =>
      obtain ⟨u, hu, hr⟩ := h.get e
      rw [hu]
      exact .cons hr (Vals.pick h l)
def tPick2 (K : PySem.W.Frag) (lo : Option Int) (te : TE) : TE := fun σ H Q => te σ H fun x H1 => ∃ a xs, x = .ref a ∧ SqL K H1 a xs ∧ ∀ p, H1 p = none → Q (.ref p) (upd H1 p (.lst (pick2 lo xs)))
theorem pe_pick2 {X : Cx} {e : Expr} {lower : Option Expr} {te : TE} {tp : TO} {lo : Option Int} {k : Nat} {p1 p3 pos : Pos} (he : PE X e te) (hl : PO X lower tp) (hlo : ∀ σ H (R : Option Int → Hp → Prop), R lo H → tp σ H R) : PE X (.Subscript e (.Slice lower none (some (.Constant (.int 2) k p1)) p3) pos) (tPick2 X.K lo te) := by
  refine ⟨fun pins s σ H Q I h => ?_⟩
  refine Subscript_ (thn (he.run pins s σ H _ I h) fun v s1 ⟨x, H1, I1, r1, q1⟩ => ?_)
  obtain ⟨a, xs, ex, hx, q⟩ := q1
  subst ex
  cases r1
  have hst : PO X (some (.Constant (.int 2) k p1)) (tPart (tC (.int 2))) := po_some pe_int
  refine wpAny_Slice (thn (hl.run pins s1 σ H1 (fun o H2 => o = lo ∧ H2 = H1) I1 (hlo _ _ _ ⟨rfl, rfl⟩)) fun vl s2 ⟨l, H2, I2, pl, el, e2⟩ => ?_)
  subst el e2
  refine thn (po_none.run pins s2 σ H2 (fun o H3 => o = none ∧ H3 = H2) I2 ⟨rfl, rfl⟩) fun vu s3 ⟨u, H3, I3, pu, eu, e3⟩ => ?_
  subst eu e3
  refine thn (hst.run pins s3 σ H3 (fun o H4 => o = some 2 ∧ H4 = H3) I3 ⟨2, rfl, rfl, rfl⟩) fun vs s4 ⟨o, H4, I4, ps, eo, e4⟩ => ?_
  subst eo e4
  have I5 : Inv X pins σ H4 { s4 with heap := s4.heap.push { cls := .type "slice", data := .fields #[vl, vu, vs] } } := I4.kept (t' := s4.toks) fun b ob q => Heap.get?_push_of_some _ q
  obtain ⟨its, r, ht, hz⟩ := I5.list hx
  have hlen := r.length
  show wpAny (model X.prog X.w) X.A (subscriptTail e (.Slice lower none (some (.Constant (.int 2) k p1)) p3) (.ref a) (.ref s4.heap.objs.size)) (EP X pins σ Q) X.xe { s4 with heap := s4.heap.push { cls := .type "slice", data := .fields #[vl, vu, vs] } }
  refine tail_any (ops := [.ref a, .ref s4.heap.objs.size]) ht.isList.typeIs (PySem.slot_list_getitem.lookup) ?_ (by with_unfolding_all rfl)
  refine wpAny_getItem_list_slice ht.isList (Heap.IsSliceOf.new _ vl vu vs) pl pu ps (by decide) ?_ (by rw [List.size_toArray]; omega)
  have ep : slicePick its.toArray l none (some 2) = (pick2 l its).toArray := by
    unfold slicePick pick2 sIdx
    rw [List.size_toArray]
    congr 1
    simp only [List.getElem?_toArray]
  rw [ep]
  refine ⟨.ref _, _, I5.laid (t' := s4.toks) (o := .lst (pick2 l xs)) (fun b ob q => Heap.get?_push_of_some _ q) (Nat.le_refl _) ?_, rfl, q _ (I5.hok.fresh (Nat.le_refl _))⟩
  have e2 : pick2 l its = (sIdx l xs.length).filterMap (its[·]?) := by unfold pick2; rw [hlen]
  refine ⟨Nat.le_trans (pick2_len l xs) hz, _, 0, ?_, Heap.get?_push_size _ rfl⟩
  rw [e2]
  exact Vals.pick r _
def pick2W (b : Bool) (lo : Option Int) : W → Option W
  | .lst _ xs => some (.lst b (pick2 lo xs))
  | _ => none
theorem me_pick2 (b : Bool) {Z : Zt} {e : Expr} {lower : Option Expr} {tp : TO} {lo : Option Int} {m : Sm W} {p k1 : Bool} {j : Nat} {q1 q3 q4 : Pos} (hl : PO Z.X lower tp) (hlo : ∀ σ H (R : Option Int → Hp → Prop), R lo H → tp σ H R) (he : ME Z e m p k1) : ME Z (.Subscript e (.Slice lower none (some (.Constant (.int 2) j q1)) q3) q4) (mUn (pick2W b lo) m) p true :=
  pe_imp (pe_pick2 he hl hlo) fun σ H Q hq => tx_un (r := fun x H1 Q => ∃ a xs, x = .ref a ∧ SqL Z.X.K H1 a xs ∧ ∀ p, H1 p = none → Q (.ref p) (upd H1 p (.lst (pick2 lo xs)))) (fun G H w1 v1 O1 w Q s r1 e q => by
    cases w1 with
    | lst b1 xs =>
      cases e
      obtain ⟨a1, vs, rfl, h1, f1⟩ := r1.lstAt s
      refine ⟨a1, vs, rfl, SqL.of h1, fun p n => q.lst s ?_ n⟩
      unfold pick2
      rw [← f1.len]
      exact f1.pick _
    | _ => cases e) hq
theorem me_pick2n (b : Bool) {Z : Zt} {e : Expr} {m : Sm W} {p k1 : Bool} {j : Nat} {q1 q3 q4 : Pos} (he : ME Z e m p k1) : ME Z (.Subscript e (.Slice none none (some (.Constant (.int 2) j q1)) q3) q4) (mUn (pick2W b none) m) p true := me_pick2 b po_none (fun _ _ _ h => h) he
theorem me_pick2i (b : Bool) {Z : Zt} {e : Expr} {m : Sm W} {p k1 : Bool} {j j2 : Nat} {i : Int} {q1 q2 q3 q4 : Pos} (he : ME Z e m p k1) : ME Z (.Subscript e (.Slice (some (.Constant (.int i) j2 q2)) none (some (.Constant (.int 2) j q1)) q3) q4) (mUn (pick2W b (some i)) m) p true := me_pick2 b (po_some pe_int) (fun _ _ _ h => ⟨i, rfl, h⟩) he
theorem w_pick2 (b c : Bool) (lo : Option Int) (ws : List W) : pick2W b lo (.lst c ws) = some (.lst b (pick2 lo ws)) := rfl
theorem w_revZ (z : Str) (h : z.length ≤ sizeLine) : revZW (.str z) = some (.str (revZ z)) := by
  unfold revZW
  exact if_pos h
end Ev

namespace Ev
open PySem PySem.Spec L2
theorem sub_lentS {G H : Hp} {S : List Addr} (s : Sub G H) : Sub (lentH G H S) H := sub_lent s
theorem lent_none {G H : Hp} {S : List Addr} {b : Addr} (hs : b ∉ S) (g : G b = none) : lentH G H S b = none := by
  unfold lentH
  rw [g]
  show (if b ∈ S then H b else none) = none
  rw [if_neg hs]
def mFzD (m : Sm W) : Sm W := Sm.bind m fun w => if w.fzOk = true then Sm.ret w.fzD else fun _ => .bad
theorem tx_fzD {D : Dn} {Wx : WX} {m : Sm W} {p : Bool} {σ : St} {H : Hp} {Q : VK} (q : TX D Wx p true (mFzD m) σ H Q) : TX D Wx p true m σ H Q := by
  obtain ⟨env, G, Os, s, q⟩ := q
  refine ⟨env, G, Os, s, ?_⟩
  unfold mFzD Sm.bind at q
  cases e1 : m env with
  | bad => rw [e1] at q; exact q
  | ex c env1 => rw [e1] at q; exact q
  | ok w env1 =>
    rw [e1] at q
    intro v G' H' Os' Ow s' r o t
    by_cases hf : w.fzOk = true
    · simp only [if_pos hf, Sm.ret] at q
      have na : ∀ b ∈ Os'.flatten, b ∉ Ow := fun b hb z => (List.nodup_append.mp o.1).2.2 b hb b z rfl
      have s2 : StOk D (lentH G' H' Ow) H' env1 σ Os' := ⟨s'.sl.mono lent_mono fun _ _ _ h => h, sub_lentS s'.sub, fun b hb => lent_none (na b hb) (s'.gn b hb), s'.nd⟩
      have rf := RO.deep (S := Ow) w v Ow hf r fun a ha => ⟨ha, o.2 a ha⟩
      refine q v (lentH G' H' Ow) H' Os' [] s2 (RO.ofF rf) (OwnK.nil s2) ?_
      cases p with
      | true =>
        obtain ⟨e1, e2, t⟩ := t
        refine ⟨e1, e2, t.mono.trans lent_mono, t.keep, fun b x hb hn nt hg => ?_, fun _ z => nomatch z⟩
        refine lent_none (fun z => ?_) (t.gnew b x hb hn nt hg)
        rcases t.new b z with y | y
        · cases y
        · rw [hb] at y; cases y
      | false =>
        have t' : Step G H Os.flatten G' H' (Os'.flatten ++ Ow) := t
        show Step G H Os.flatten _ H' (Os'.flatten ++ [])
        refine ⟨t'.mono.trans lent_mono, t'.keep, fun b x hb hn nt hg => ?_, fun b hb => t'.new b (by rw [List.append_nil] at hb; exact List.mem_append_left _ hb)⟩
        refine lent_none (fun z => ?_) (t'.gnew b x hb hn nt hg)
        rcases t'.new b (List.mem_append_right _ z) with y | y
        · exact hn y
        · rw [hb] at y; cases y
    · simp only [if_neg hf] at q
theorem me_fzD {Z : Zt} {e : Expr} {m : Sm W} {p : Bool} (h : ME Z e m p true) : ME Z e (mFzD m) p true := pe_imp h fun _ _ _ q => tx_fzD q
theorem r_fzD {env : List W} (m : Sm W) : mFzD m env = match m env with
    | .ok w e => if w.fzOk = true then .ok w.fzD e else .bad
    | .ex c e => .ex c e
    | .bad => .bad := by
  unfold mFzD Sm.bind
  cases m env with
  | ok w e =>
    dsimp only
    by_cases h : w.fzOk = true
    · rw [if_pos h, if_pos h]; rfl
    · rw [if_neg h, if_neg h]
  | _ => rfl
/-! ### a slot frozen through and through -/
def gFzD (i : Nat) : Sm Unit := fun env => match env[i]? with
  | some w => if w.fzOk = true then .ok () (env.set i w.fzD) else .bad
  | none => .bad
theorem r_gfzD {env : List W} (i : Nat) : gFzD i env = match env[i]? with
    | some w => if w.fzOk = true then .ok () (env.set i w.fzD) else .bad
    | none => .bad := rfl
theorem flat_mem {Os : List (List Addr)} {i : Nat} {O : List Addr} (h : Os[i]? = some O) {a : Addr} (ha : a ∈ O) : a ∈ Os.flatten := List.mem_flatten.mpr ⟨_, List.mem_of_getElem? h, ha⟩
theorem onceO {i : Nat} {O : List Addr} {Os : List (List Addr)} (nd : Os.flatten.Nodup) (e : Os[i]? = some O) {a : Addr} (ha : a ∈ O) : a ∉ (Os.set i []).flatten := fun z => by
  have pm := flat_set (O' := []) e
  rw [List.append_nil] at pm
  exact (List.nodup_append.mp (pm.nodup_iff.mpr nd)).2.2 a z a ha rfl
theorem nd_at {i : Nat} {O : List Addr} {Os : List (List Addr)} (nd : Os.flatten.Nodup) (e : Os[i]? = some O) : O.Nodup := by
  have pm := flat_set (O' := []) e
  rw [List.append_nil] at pm
  exact (List.nodup_append.mp (pm.nodup_iff.mpr nd)).2.1
theorem StOk.fzD {D : Dn} {G H : Hp} {env : List W} {σ : St} {Os : List (List Addr)} {i : Nat} {w : W} (s : StOk D G H env σ Os) (e : env[i]? = some w) (hf : w.fzOk = true) :
    ∃ G', StOk D G' H (env.set i w.fzD) σ (Os.set i []) ∧ Step G H Os.flatten G' H (Os.set i []).flatten := by
  obtain ⟨sv, O, h1, h2, h3⟩ := s.sl.at e
  rcases h3 with ⟨v, ev, r⟩ | ⟨ev, _⟩
  · subst ev
    have inO : ∀ a ∈ O, a ∈ Os.flatten := fun a ha => flat_mem h2 ha
    have rf := RO.deep (S := O) w v O hf r fun a ha => ⟨ha, s.gn a (inO a ha)⟩
    refine ⟨lentH G H O, ⟨?_, sub_lentS s.sub, fun b hb => lent_none (fun z => onceO s.nd h2 z hb) (s.gn b (flat_sub b hb)), flat_nd s.nd⟩, lent_mono, fun b x hb _ => hb, fun b x hb hn _ g => lent_none (fun z => hn (inO b z)) g, fun b hb => .inl (flat_sub b hb)⟩
    have s0 : Sl D (lentH G H O) H env σ Os := s.sl.mono lent_mono fun _ _ _ h => h
    have z := Sl.set (D := D) (G := lentH G H O) (H := H) (w := w.fzD) (s := some v) (O := []) (.inl ⟨v, rfl, RO.ofF rf⟩) i s0
    rwa [set_self h1] at z
  · subst ev
    cases hf
theorem mss_fzD {Z : Zt} {st : List Stmt} {m : Sm Fl} (i : Nat) (h : MSs Z st m) : MSs Z st (sGo (gFzD i) m) := pss_imp h fun E σ H q => by
  obtain ⟨env, G, Os, s, q⟩ := q
  unfold sGo gFzD Sm.bind at q
  cases e : env[i]? with
  | none => simp only [e] at q; exact q.elim
  | some w =>
    simp only [e] at q
    by_cases hf : w.fzOk = true
    · simp only [if_pos hf] at q
      obtain ⟨G', s', t⟩ := s.fzD e hf
      exact TSx.on s' t (IoS.refl _) q
    · simp only [if_neg hf] at q
      exact q.elim
/-! ### a new list of lists -/
def nstW (ws : List W) : Option W := match ws with
  | [] => some (.nst [])
  | _ => none
theorem Ans.nst {D : Dn} {G H : Hp} {p : Addr} {Q : VK} (s : Sub G H) (n : H p = none) (h : Ans D G H (.nst []) Q) : Q (.ref p) (upd H p (.lst [])) :=
  h (.ref p) G (upd H p (.lst [])) [p] (sub_upd s n) ⟨p, [], [], rfl, rfl, upd_same, rfl, rfl⟩ (by simp) (fun a ha => by rw [List.mem_singleton.mp ha]; exact sub_none s n) (step_own n)
theorem me_nst0 {Z : Zt} {pos : Pos} : ME Z (.List [] pos) (mArgs nstW mNil) true true := pe_imp (pe_lst ma_nil) fun σ H Q q => ta_args (r := fun xs H1 Q => xs.length ≤ sizeLine ∧ ∀ p, H1 p = none → Q (.ref p) (upd H1 p (.lst xs))) (fun G H ws vs w Q s r e q => by
  cases ws with
  | nil =>
    cases e
    rw [show vs = [] from r]
    exact ⟨Nat.zero_le _, fun p n => q.nst s n⟩
  | cons _ _ => cases e) q
/-- a slot's thing changed at one of its own addresses, and more of its own -/
theorem StOk.updO {D : Dn} {G H : Hp} {env : List W} {σ : St} {Os : List (List Addr)} {i : Nat} {O Ow : List Addr} {v : V} {b : Addr} {o : HO} {w' : W} (s : StOk D G H env σ Os) (hO : Os[i]? = some O) (hσ : σ[i]? = some (some v)) (hb : b ∈ O)
    (r : RO D G (upd H b o) w' v (O ++ Ow)) (nd : (Os.flatten ++ Ow).Nodup) (gn : ∀ a ∈ Ow, G a = none) :
    ∃ Os2, StOk D G (upd H b o) (env.set i w') σ Os2 ∧ Step G H (Os.flatten ++ Ow) G (upd H b o) Os2.flatten := by
  have inO : b ∈ Os.flatten := flat_mem hO hb
  have gb : G b = none := s.gn b inO
  have hi : i < Os.length := by
    obtain ⟨h, _⟩ := List.getElem?_eq_some_iff.mp hO
    exact h
  have e0 : (Os.set i [])[i]? = some [] := by rw [List.getElem?_set_self hi]
  have p1 := flat_set (O' := []) hO
  have p2 := flat_set (O' := O ++ Ow) e0
  rw [List.append_nil] at p1 p2
  rw [List.set_set] at p2
  have pm : (Os.set i (O ++ Ow)).flatten.Perm (Os.flatten ++ Ow) := by
    refine p2.trans ?_
    rw [← List.append_assoc]
    exact p1.append_right Ow
  refine ⟨Os.set i (O ++ Ow), ⟨?_, fun a x ha => ?_, fun a ha => ?_, pm.nodup_iff.mpr nd⟩, Sub.refl _, fun a x ha hn => ?_, fun a x ha hn _ g => g, fun a ha => .inl (pm.mem_iff.mp ha)⟩
  · have no := fun a ha => onceO s.nd hO (a := a) ha
    have s0 : Sl D G (upd H b o) (env.set i .dead) σ (Os.set i []) := (s.sl.kill1 i).mono (Sub.refl _) fun a ha x hx => by
      rw [upd_ne (fun e => no b hb (by rw [← e]; exact ha))]; exact hx
    have s1 := Sl.set (D := D) (G := G) (H := upd H b o) (w := w') (s := some v) (O := O ++ Ow) (.inl ⟨v, rfl, r⟩) i s0
    rw [set_self hσ, List.set_set, List.set_set] at s1
    exact s1
  · rw [upd_ne (ne_of_none ha gb)]; exact s.sub a x ha
  · rcases List.mem_append.mp (pm.mem_iff.mp ha) with z | z
    · exact s.gn a z
    · exact gn a z
  · rw [upd_ne (fun e => hn (by rw [e]; exact List.mem_append_left _ inO))]; exact ha
theorem ROs.append {D : Dn} {G H : Hp} : ∀ {xs ys : List W} {vs us : List V} {O P : List Addr}, ROs D G H xs vs O → ROs D G H ys us P → ROs D G H (xs ++ ys) (vs ++ us) (O ++ P)
  | [], _, _, _, _, _, h, k => by rw [h.1, h.2]; exact k
  | x :: xs, _, _, _, _, _, h, k => by
    obtain ⟨v, r, O1, O2, rfl, rfl, h1, h2⟩ := h
    exact ⟨v, _, O1, O2 ++ _, rfl, List.append_assoc .., h1, ROs.append h2 k⟩
theorem Sl.atNst {D : Dn} {G H : Hp} {env : List W} {σ : St} {Os : List (List Addr)} {i : Nat} {ws : List W} (s : Sl D G H env σ Os) (e : env[i]? = some (.nst ws)) : ∃ a vs O, σ[i]? = some (some (.ref a)) ∧ Os[i]? = some (a :: O) ∧ H a = some (.lst vs) ∧ ROs D G H ws vs O := by
  obtain ⟨sv, O, h1, h2, h3⟩ := s.at e
  rcases h3 with ⟨v, rfl, a, vs, O', rfl, rfl, h4, h5⟩ | ⟨z, _⟩
  · exact ⟨a, vs, O', h1, h2, h4, h5⟩
  · cases z
/-! ### xs.append(e), e new and owned -/
def mPush (i : Nat) (m : Sm W) : Sm W := fun env => match env[i]? with
  | some (.nst _) => match m env with
    | .ok w env1 => match env1[i]? with
      | some (.nst ws) => if ws.length < sizeLine then .ok .non (env1.set i (.nst (ws ++ [w]))) else .bad
      | _ => .bad
    | .ex c env1 => .ex c env1
    | .bad => .bad
  | _ => .bad
theorem tx_push {Z : Zt} {i : Nat} {m : Sm W} {p : Bool} {σ : St} {H : Hp} {Q : VK} (q : TX Z.D Z.W false true (mPush i m) σ H Q) :
    tVar i σ H fun x H1 => tyV Z.X.K "list" x H1 ∧ TX Z.D Z.W p true m σ H1 fun y H2 => rAppend x [y] H2 Q := by
  obtain ⟨env, G, Os, s, q⟩ := q
  unfold mPush at q
  cases e : env[i]? with
  | none => rw [e] at q; exact q.elim
  | some w0 =>
    have key : ∃ xs0, w0 = .nst xs0 := by
      rw [e] at q
      cases w0 <;> first
        | exact q.elim
        | exact ⟨_, rfl⟩
    obtain ⟨xs0, rfl⟩ := key
    rw [e] at q
    obtain ⟨a, vs0, O0, h1, h2, h3, h4⟩ := s.sl.atNst e
    refine ⟨.ref a, h1, .inl ⟨rfl, _, SqL.of h3⟩, env, G, Os, s, ?_⟩
    cases em : m env with
    | bad => simp only [em] at q
    | ex c env1 =>
      simp only [em] at q
      exact fun G' H' Os' s' t => q G' H' Os' s' t.gen
    | ok w env1 =>
      simp only [em] at q
      intro v G1 H1 Os1 Ow s1 r1 o1 t1
      cases e1 : env1[i]? with
      | none => simp only [e1] at q
      | some w1 =>
        have key1 : ∃ xs1, w1 = .nst xs1 := by
          cases w1 <;> first
            | (exfalso; simp only [e1] at q; done)
            | exact ⟨_, rfl⟩
        obtain ⟨xs1, rfl⟩ := key1
        simp only [e1] at q
        obtain ⟨a', vs1, O1, g1, g2, g3, g4⟩ := s1.sl.atNst e1
        rw [h1] at g1
        cases g1
        by_cases hl : xs1.length < sizeLine
        · simp only [if_pos hl] at q
          refine ⟨a, vs1, v, rfl, rfl, g3, by rw [← g4.len]; exact hl, ?_⟩
          have na : ∀ b ∈ O1, b ≠ a := fun b hb e => by
            have := nd_at s1.nd g2
            exact (List.nodup_cons.mp this).1 (by rw [← e]; exact hb)
          have nw : ∀ b ∈ Ow, b ≠ a := fun b hb e => (List.nodup_append.mp o1.1).2.2 a (flat_mem g2 List.mem_cons_self) b hb e.symm
          have ro : RO Z.D G1 (upd H1 a (.lst (vs1 ++ [v]))) (.nst (xs1 ++ [w])) (.ref a) ((a :: O1) ++ Ow) := by
            refine ⟨a, vs1 ++ [v], O1 ++ Ow, rfl, rfl, upd_same, ROs.append (ROs.mono (Sub.refl _) _ _ _ (fun b hb x hx => by rw [upd_ne (na b hb)]; exact hx) g4) ?_⟩
            exact ⟨v, [], Ow, [], rfl, (List.append_nil _).symm, RO.mono (Sub.refl _) _ _ _ (fun b hb x hx => by rw [upd_ne (nw b hb)]; exact hx) r1, rfl, rfl⟩
          obtain ⟨Os2, s2, t2⟩ := s1.updO g2 h1 List.mem_cons_self ro o1.1 o1.2
          refine q .non G1 _ Os2 [] s2 ⟨rfl, rfl⟩ (OwnK.nil s2) ?_
          show Step G H Os.flatten G1 _ (Os2.flatten ++ [])
          rw [List.append_nil]
          exact t1.gen.trans t2
        · simp only [if_neg hl] at q
theorem me_push {Z : Zt} {o e : Expr} {i : Nat} {m : Sm W} {p : Bool} {apos cpos : Pos} (ho : PE Z.X o (tVar i)) (ha : ME Z e m p true) (hbase : attributeBase o "append" Z.X.env (eval o Z.X.env) = eval o Z.X.env := by rfl)
    (hfew : ((backTo cpos (starEach [e] Z.X.env)).all (fun x => !x.1) && (backToKw cpos (keywordEach [] Z.X.env)).all (fun x => x.1.isSome)
      && decide ([e].length + ([] : List Keyword).length + (if ([] : List Keyword).isEmpty then 0 else 1) < 30)) = true := by rfl)
    (hline : (apos.endLine == cpos.line) = true := by rfl) (hs : starEach [e] Z.X.env = (false, eval e Z.X.env) :: starEach [] Z.X.env := by rfl) :
    ME Z (.Call (.Attribute o "append" apos) [e] [] cpos) (mPush i m) false true :=
  pe_imp (pe_bm PySem.F.plainAttrs_list PySem.F.slot_list_append PySem.F.type_list_append mt_append ho (pa_cons ha pa_nil hs) hbase hfew hline hs rfl) fun σ H Q q => tx_push q
/-! ### xs[e].append(..) and the like, xs[e] owned -/
theorem ROs.child {D : Dn} {G H : Hp} : ∀ {ws : List W} {vs : List V} {O : List Addr} {j : Nat} {xs : List W}, ROs D G H ws vs O → O.Nodup → ws[j]? = some (.lst true xs) →
    ∃ b us, vs[j]? = some (.ref b) ∧ b ∈ O ∧ H b = some (.lst us) ∧ RFs D G xs us ∧ ∀ us' xs', RFs D G xs' us' → ROs D G (upd H b (.lst us')) (ws.set j (.lst true xs')) vs O
  | [], _, _, _, _, _, _, e => by simp at e
  | w :: ws, _, _, 0, xs, h, nd, e => by
    obtain ⟨v, r, O1, O2, rfl, rfl, h1, h2⟩ := h
    have ew : w = .lst true xs := by simpa using e
    subst ew
    obtain ⟨b, us, rfl, rfl, h3, h4⟩ := h1
    refine ⟨b, us, rfl, List.mem_cons_self, h3, h4, fun us' xs' hr => ?_⟩
    have nb : ∀ a ∈ O2, a ≠ b := fun a ha e => by
      rw [List.singleton_append] at nd
      exact (List.nodup_cons.mp nd).1 (by rw [← e]; exact ha)
    exact ⟨.ref b, r, [b], O2, rfl, rfl, ⟨b, us', rfl, rfl, upd_same, hr⟩, ROs.mono (Sub.refl _) _ _ _ (fun a ha x hx => by rw [upd_ne (nb a ha)]; exact hx) h2⟩
  | w :: ws, _, _, j + 1, xs, h, nd, e => by
    obtain ⟨v, r, O1, O2, rfl, rfl, h1, h2⟩ := h
    obtain ⟨n1, n2, n3⟩ := List.nodup_append.mp nd
    obtain ⟨b, us, g1, g2, g3, g4, g5⟩ := ROs.child h2 n2 (j := j) (xs := xs) (by simpa using e)
    refine ⟨b, us, by simpa using g1, List.mem_append_right _ g2, g3, g4, fun us' xs' hr => ?_⟩
    exact ⟨v, r, O1, O2, rfl, rfl, RO.mono (Sub.refl _) _ _ _ (fun a ha x hx => by rw [upd_ne (fun e => n3 a ha b g2 e)]; exact hx) h1, g5 us' xs' hr⟩
def mMutN (i : Nat) (F : MutF) (mi : Sm W) (m : Sm (List W)) : Sm W := fun env => match env[i]? with
  | some (.nst ws) => match mi env with
    | .ok (.int n) _ => match ixN ws.length n with
      | some j => match ws[j]? with
        | some (.lst true xs) => match m env with
          | .ok us _ => match F xs us with
            | some (w, xs') => .ok w (env.set i (.nst (ws.set j (.lst true xs'))))
            | none => .bad
          | .ex c _ => .ex c env
          | .bad => .bad
        | _ => .bad
      | none => .bad
    | .ex c _ => .ex c env
    | _ => .bad
  | _ => .bad
theorem tx_mutN {Z : Zt} {i : Nat} {F : MutF} {mi : Sm W} {m : Sm (List W)} {k : Bool} {σ : St} {H : Hp} {Q : VK} {r : V → List V → Hp → VK → Prop}
    (hr : ∀ (G H : Hp) (a : Addr) (xs ws : List W) (vs us : List V) (w : W) (xs' : List W) (Q : VK), Sub G H → H a = some (.lst vs) → RFs Z.D G xs vs → RFs Z.D G ws us → F xs ws = some (w, xs') → (∀ v vs', RF Z.D G w v → RFs Z.D G xs' vs' → Q v (upd H a (.lst vs'))) → r (.ref a) us H Q)
    (q : TX Z.D Z.W false true (mMutN i F mi m) σ H Q) : tOp (rIxL Z.X.K) (tVar i) (TX Z.D Z.W true k mi) σ H fun x H1 => tyV Z.X.K "list" x H1 ∧ TA' Z.D Z.W true m σ H1 fun us H2 => r x us H2 Q := by
  obtain ⟨env, G, Os, s, q⟩ := q
  unfold mMutN at q
  cases e : env[i]? with
  | none => rw [e] at q; exact q.elim
  | some w0 =>
    have key : ∃ xs0, w0 = .nst xs0 := by
      rw [e] at q
      cases w0 <;> first
        | exact q.elim
        | exact ⟨_, rfl⟩
    obtain ⟨ws, rfl⟩ := key
    rw [e] at q
    obtain ⟨a, vs0, O0, h1, h2, h3, h4⟩ := s.sl.atNst e
    refine ⟨.ref a, h1, env, G, Os, s, ?_⟩
    cases ei : mi env with
    | bad => simp only [ei] at q
    | ex c env1 =>
      simp only [ei] at q
      intro G' H' Os' s' t
      obtain ⟨rfl, rfl, _⟩ := id t
      exact q G' H' Os' s' (Stp.gen t)
    | ok wi env1 =>
      intro iv G1 H1 Os1 Oi s1 ri oi t1
      obtain ⟨rfl, rfl, t1'⟩ := id t1
      cases wi with
      | int n =>
        simp only [ei] at q
        cases ej : ixN ws.length n with
        | none => simp only [ej] at q
        | some j =>
          simp only [ej] at q
          cases ew : ws[j]? with
          | none => simp only [ew] at q
          | some wj =>
            have key1 : ∃ xs, wj = .lst true xs := by
              cases wj <;> first
                | (exfalso; simp only [ew] at q; done)
                | (rename_i b _; cases b <;> first | (exfalso; simp only [ew] at q; done) | exact ⟨_, rfl⟩)
            obtain ⟨xs, rfl⟩ := key1
            simp only [ew] at q
            obtain ⟨_, rfl⟩ := ri
            obtain ⟨a', vs1, O1, g1, g2, g3, g4⟩ := s1.sl.atNst e
            rw [h1] at g1
            cases g1
            have nd1 : O1.Nodup := (List.nodup_cons.mp (nd_at s1.nd g2)).2
            obtain ⟨b, us, c1, c2, c3, c4, c5⟩ := g4.child nd1 ew
            have ha : atI vs1 n = some (.ref b) := by
              unfold atI
              rw [← g4.len, ej]
              exact c1
            refine ⟨a, vs1, n, .ref b, rfl, rfl, SqL.of g3, ha, .inl ⟨rfl, _, SqL.of c3⟩, env1, G1, Os1, s1, ?_⟩
            cases em : m env1 with
            | bad => simp only [em] at q
            | ex c env2 =>
              simp only [em] at q
              intro G' H' Os' s' t
              obtain ⟨rfl, rfl, t'⟩ := id t
              exact q G' H' Os' s' ((Stp.gen t1).less (fun x hx => List.mem_append_left _ (by simpa using hx)) |>.trans (Stp.gen t))
            | ok as env2 =>
              simp only [em] at q
              intro asv G2 H2 Os2 s2 ra t2
              obtain ⟨rfl, rfl, t2'⟩ := id t2
              cases eF : F xs as with
              | none => simp only [eF] at q
              | some ww =>
                obtain ⟨w, xs'⟩ := ww
                simp only [eF] at q
                obtain ⟨a2, vs2, O2, k1, k2, k3, k4⟩ := s2.sl.atNst e
                rw [h1] at k1
                cases k1
                rw [g2] at k2
                cases k2
                obtain ⟨b2, us2, d1, d2, d3, d4, d5⟩ := k4.child nd1 ew
                have hba : b ≠ a := fun e => (List.nodup_cons.mp (nd_at s2.nd g2)).1 (by rw [← e]; exact c2)
                have ev : vs2 = vs1 := by
                  have z := t2'.keep a _ g3 (fun z => nomatch z)
                  rw [k3] at z
                  cases z
                  rfl
                subst ev
                rw [c1] at d1
                cases d1
                refine hr G2 H2 b xs as us2 asv w xs' Q s2.sub d3 d4 ra eF fun v us' rv rvs => ?_
                have ro : RO Z.D G2 (upd H2 b (.lst us')) (.nst (ws.set j (.lst true xs'))) (.ref a) ((a :: O1) ++ []) := by
                  rw [List.append_nil]
                  exact ⟨a, vs2, O1, rfl, rfl, by rw [upd_ne (Ne.symm hba)]; exact k3, d5 us' xs' rvs⟩
                obtain ⟨Os3, s3, t3⟩ := s2.updO g2 h1 (List.mem_cons_of_mem _ c2) ro (by rw [List.append_nil]; exact s2.nd) (fun _ z => nomatch z)
                rw [List.append_nil] at t3
                refine q v G2 _ Os3 [] s3 (RO.ofF rv) (OwnK.nil s3) ?_
                show Step G H Os2.flatten G2 _ (Os3.flatten ++ [])
                rw [List.append_nil]
                have u1 : Step G H Os2.flatten G1 H1 Os2.flatten := (Stp.gen t1).less fun x hx => List.mem_append_left _ hx
                have u2 : Step G1 H1 Os2.flatten G2 H2 Os2.flatten := (Stp.gen t2).less fun x hx => List.mem_append_left _ hx
                exact (u1.trans u2).trans t3
      | _ => simp only [ei] at q
theorem me_mutN {Z : Zt} {o ix e : Expr} {es : List Expr} {i : Nat} {F : MutF} {mi : Sm W} {m : Sm (List W)} {k : Bool} {name : Str} {id : String} {apos cpos spos : Pos} (slot : Slot "list" name id) (hty : typeOf (.builtin id) = pure (.type "method_descriptor")) (hm : MutS Z id F) (ho : PE Z.X o (tVar i)) (hi : ME Z ix mi true k) (ha : MA Z (e :: es) m true)
    (hpx : PlainIx ix := by exact fun _ _ => rfl)
    (hbase : attributeBase (.Subscript o ix spos) name Z.X.env (eval (.Subscript o ix spos) Z.X.env) = eval (.Subscript o ix spos) Z.X.env := by rfl)
    (hfew : ((backTo cpos (starEach (e :: es) Z.X.env)).all (fun x => !x.1) && (backToKw cpos (keywordEach [] Z.X.env)).all (fun x => x.1.isSome)
      && decide ((e :: es).length + ([] : List Keyword).length + (if ([] : List Keyword).isEmpty then 0 else 1) < 30)) = true := by rfl)
    (hline : (apos.endLine == cpos.line) = true := by rfl) (hs : starEach (e :: es) Z.X.env = (false, eval e Z.X.env) :: starEach es Z.X.env := by rfl) (hplain : (backTo cpos (starEach es Z.X.env)).any (·.1) = false := by rfl) :
    ME Z (.Call (.Attribute (.Subscript o ix spos) name apos) (e :: es) [] cpos) (mMutN i F mi m) false true := by
  obtain ⟨r, h1, h2⟩ := hm
  exact pe_imp (pe_bm PySem.F.plainAttrs_list slot hty h1 (pe_ix ix_list ho hi hpx) ha hbase hfew hline hs hplain) fun σ H Q q => tx_mutN h2 q
theorem me_appendN {Z : Zt} {o ix e : Expr} {i : Nat} {mi : Sm W} {m : Sm (List W)} {k : Bool} {apos cpos spos : Pos} (ho : PE Z.X o (tVar i)) (hi : ME Z ix mi true k) (ha : MA Z [e] m true)
    (hpx : PlainIx ix := by exact fun _ _ => rfl)
    (hbase : attributeBase (.Subscript o ix spos) "append" Z.X.env (eval (.Subscript o ix spos) Z.X.env) = eval (.Subscript o ix spos) Z.X.env := by rfl)
    (hfew : ((backTo cpos (starEach [e] Z.X.env)).all (fun x => !x.1) && (backToKw cpos (keywordEach [] Z.X.env)).all (fun x => x.1.isSome)
      && decide ([e].length + ([] : List Keyword).length + (if ([] : List Keyword).isEmpty then 0 else 1) < 30)) = true := by rfl)
    (hline : (apos.endLine == cpos.line) = true := by rfl) (hs : starEach [e] Z.X.env = (false, eval e Z.X.env) :: starEach [] Z.X.env := by rfl) :
    ME Z (.Call (.Attribute (.Subscript o ix spos) "append" apos) [e] [] cpos) (mMutN i fAppend mi m) false true := me_mutN PySem.F.slot_list_append PySem.F.type_list_append mut_append ho hi ha hpx hbase hfew hline hs rfl
theorem r_push {env : List W} (i : Nat) (m : Sm W) : mPush i m env = match env[i]? with
  | some (.nst _) => (match m env with
    | .ok w env1 => (match env1[i]? with
      | some (.nst ws) => if ws.length < sizeLine then .ok .non (env1.set i (.nst (ws ++ [w]))) else .bad
      | _ => .bad)
    | .ex c env1 => .ex c env1
    | .bad => .bad)
  | _ => .bad := rfl
/-! ### range with the step 2 -/
theorem small_two {a b : Int} (ha : -(2 ^ 62) ≤ a) (ha' : a < 2 ^ 62) (hb : -(2 ^ 62) ≤ b) (hb' : b < 2 ^ 62) : Builtin.Range.small a b 2 = true := by
  unfold Builtin.Range.small Builtin.Range.rangeSize
  simp only [Builtin.Range.rangeFitsLong, Bool.and_eq_true, Bool.or_eq_true, decide_eq_true_eq, beq_iff_eq, show ((2 : Int) > 0) by decide, if_true]
  split <;> omega
theorem RgC.two {i j : Int} (hi : rngOk i) (hj : rngOk j) : RgC i j 2 ((j - i + 1) / 2).toNat := by
  refine ⟨by decide, by decide, small_two hi.1 hi.2 hj.1 hj.2, ?_⟩
  unfold Builtin.Range.rangeSize
  rw [if_pos (by decide)]
  split <;> omega
noncomputable def rng3 : List W → Option (List W)
  | [.int i, .int j, .int c] => if c = 2 ∧ rngOk i ∧ rngOk j then some (rngC i 2 ((j - i + 1) / 2).toNat) else none
  | _ => none
theorem RFs.three {D : Dn} {G : Hp} {i j k : Int} {vs : List V} (h : RFs D G [.int i, .int j, .int k] vs) : vs = [.int i, .int j, .int k] := RFs.ints (ns := [i, j, k]) h
theorem mi_range3 {Z : Zt} {tg a b c : Expr} {m : Sm (List W)} {p : Bool} {p1 p2 : Pos} (hm : Z.X.mg "range" = none) (ha : MA Z [a, b, c] m p) (hg : Gl Z.X "range" := by rfl)
    (hs : starEach [a, b, c] Z.X.env = (false, eval a Z.X.env) :: starEach [b, c] Z.X.env := by rfl) (hpl : (backTo p2 (starEach [b, c] Z.X.env)).any (·.1) = false := by rfl) : MI Z tg (.Call (.Name "range" p1) [a, b, c] [] p2) (iArgs rng3 m) p :=
  pi_imp (pi_range3 hg hm ha hs hpl) fun σ H R q => ta_iter (r := fun vs H1 R => ∃ (i j c : Int) (n : Nat), vs = [.int i, .int j, .int c] ∧ RgC i j c n ∧ R (Itc i c n) H1) (fun G H ws xs vs R s r e q => by
    unfold rng3 at e
    split at e
    · rename_i i j c
      by_cases h : c = 2 ∧ rngOk i ∧ rngOk j
      · rw [if_pos h] at e
        cases e
        obtain ⟨rfl, h1, h2⟩ := h
        exact ⟨i, j, 2, _, r.three, RgC.two h1 h2, q _ walks_rngC⟩
      · rw [if_neg h] at e; cases e
    · cases e) q
theorem w_rng3 (i j : Int) (hi : rngOk i) (hj : rngOk j) : rng3 [.int i, .int j, .int 2] = some (rngC i 2 ((j - i + 1) / 2).toNat) := if_pos ⟨rfl, hi, hj⟩
end Ev

namespace Ev
open PySem PySem.Spec L2
/-! ### a method of a value: o.m(..), which looks only -/
def mMeth (ty : W → Bool) (f : W → List W → Option W) (g : Bool) (m : Sm W) (ma : Sm (List W)) : Sm W := Sm.bind m fun w => if ty w = true then Sm.bind ma fun ws => if (g || w.frz) = true then lft (f w ws) else fun _ => .bad else fun _ => .bad
def TyM (D : Dn) (T : String) (ty : W → Bool) : Prop := ∀ (G H : Hp) (w : W) (v : V) (O : List Addr), Sub G H → RO D G H w v O → ty w = true → tyV D.K T v H
def RelM (D : Dn) (r : V → List V → Hp → VK → Prop) (f : W → List W → Option W) : Prop := ∀ (G H : Hp) (w1 : W) (ws : List W) (v1 : V) (vs : List V) (O1 : List Addr) (w : W) (Q : VK), Sub G H → RO D G H w1 v1 O1 → RFs D G ws vs → f w1 ws = some w → Ans D G H w Q → r v1 vs H Q
theorem tx_meth {D : Dn} {Wx : WX} {T : String} {ty : W → Bool} {r : V → List V → Hp → VK → Prop} {f : W → List W → Option W} {m : Sm W} {ma : Sm (List W)} {p1 p2 k1 : Bool} (ht : TyM D T ty) (o : RelM D r f) {σ : St} {H : Hp} {Q : VK} (hq : TX D Wx (p1 && p2) true (mMeth ty f (k1 || p2) m ma) σ H Q) :
    TX D Wx p1 k1 m σ H fun x H1 => tyV D.K T x H1 ∧ TA' D Wx p2 ma σ H1 fun us H2 => r x us H2 Q := by
  obtain ⟨env, G, Os, s, hq⟩ := hq
  refine ⟨env, G, Os, s, ?_⟩
  unfold mMeth Sm.bind at hq
  cases e1 : m env with
  | bad => rw [e1] at hq; exact hq
  | ex c env1 =>
    rw [e1] at hq
    intro G' H' Os' s' t
    exact hq G' H' Os' s' (t.and p2)
  | ok w1 env1 =>
    rw [e1] at hq
    intro v1 G1 H1 Os1 O1 s1 r1 o1 t1
    by_cases hty : ty w1 = true
    · simp only [if_pos hty] at hq
      refine ⟨ht G1 H1 w1 v1 O1 s1.sub r1 hty, env1, G1, Os1, s1, ?_⟩
      cases e2 : ma env1 with
      | bad => simp only [e2] at hq
      | ex c env2 =>
        simp only [e2] at hq
        intro G' H' Os' s' t
        exact hq G' H' Os' s' (t1.trans t)
      | ok ws env2 =>
        simp only [e2] at hq
        intro vs G2 H2 Os2 s2 r2 t2
        by_cases hg : (k1 || p2 || w1.frz) = true
        · rw [if_pos hg] at hq
          unfold lft at hq
          cases ef : f w1 ws with
          | none => rw [ef] at hq; exact hq.elim
          | some w =>
            rw [ef] at hq
            have r1' := stay s1 r1 o1 t2 hg
            exact o G2 H2 w1 ws v1 vs O1 w Q s2.sub r1' r2 ef (Ans.of (p := p1 && p2) s2 (t1.trans t2) hq)
        · rw [if_neg hg] at hq
          exact hq.elim
    · simp only [if_neg hty] at hq
theorem r_meth {env : List W} (ty : W → Bool) (f : W → List W → Option W) (g : Bool) (m : Sm W) (ma : Sm (List W)) : mMeth ty f g m ma env = match m env with
  | .ok w e1 => if ty w = true then (match ma e1 with
    | .ok ws e2 => if (g || w.frz) = true then (match f w ws with
      | some r => .ok r e2
      | none => .bad) else .bad
    | .ex c e' => .ex c e'
    | .bad => .bad) else .bad
  | .ex c e' => .ex c e'
  | .bad => .bad := by
  unfold mMeth
  rw [r_bind]
  cases m env with
  | ok w e1 =>
    dsimp only
    split
    · rw [r_bind]
      cases ma e1 with
      | ok ws e2 =>
        dsimp only
        split
        · rw [r_lft]; cases f w ws <;> rfl
        · rfl
      | _ => rfl
    · rfl
  | _ => rfl
theorem me_meth {Z : Zt} {T id : String} {name : Str} {ty : W → Bool} {f : W → List W → Option W} {r : V → List V → Hp → VK → Prop} {o e : Expr} {es : List Expr} {m : Sm W} {ma : Sm (List W)} {p1 p2 k1 : Bool} {apos cpos : Pos} (pa : PlainAttrs T) (slot : Slot T name id) (hty : typeOf (.builtin id) = pure (.type "method_descriptor")) (hm : MtR Z.X id r) (ht : TyM Z.D T ty) (hr : RelM Z.D r f) (ho : ME Z o m p1 k1) (ha : MA Z (e :: es) ma p2)
    (hbase : attributeBase o name Z.X.env (eval o Z.X.env) = eval o Z.X.env := by rfl)
    (hfew : ((backTo cpos (starEach (e :: es) Z.X.env)).all (fun x => !x.1) && (backToKw cpos (keywordEach [] Z.X.env)).all (fun x => x.1.isSome)
      && decide ((e :: es).length + ([] : List Keyword).length + (if ([] : List Keyword).isEmpty then 0 else 1) < 30)) = true := by rfl)
    (hline : (apos.endLine == cpos.line) = true := by rfl) (hs : starEach (e :: es) Z.X.env = (false, eval e Z.X.env) :: starEach es Z.X.env := by rfl) (hplain : (backTo cpos (starEach es Z.X.env)).any (·.1) = false := by rfl) :
    ME Z (.Call (.Attribute o name apos) (e :: es) [] cpos) (mMeth ty f (k1 || p2) m ma) (p1 && p2) true :=
  pe_imp (pe_bm pa slot hty hm ho ha hbase hfew hline hs hplain) fun σ H Q q => tx_meth ht hr q
/-! ### xs.index(x) -/
def tyLst : W → Bool
  | .lst _ _ => true
  | _ => false
theorem tyM_lst {D : Dn} : TyM D "list" tyLst := fun G H w v O s r e => by
  cases w with
  | lst b ws =>
    obtain ⟨a, vs, rfl, h1, h2⟩ := r.lstAt s
    exact .inl ⟨rfl, _, SqL.of h1⟩
  | _ => cases e
def idxD (ds : List PyData) (d : PyData) : Option Nat := ds.findIdx? fun z => PyData.eqv z d
def indexW : W → List W → Option W
  | .lst _ ws, [x] => if SeqAt.shaped (.list (datL ws)) = true ∧ SeqAt.shaped x.dat = true ∧ x.fd = true then (idxD (datL ws) x.dat).map fun j => .int (j : Nat) else none
  | _, _ => none
theorem rel_index {Z : Zt} : RelM Z.D (rIndexD Z.X.K) indexW := fun G H w1 ws v1 vs O1 w Q s r1 r2 e q => by
  cases w1 with
  | lst b xs =>
    unfold indexW at e
    split at e
    · rename_i b' xs' x e1
      cases e1
      by_cases h : SeqAt.shaped (.list (datL xs)) = true ∧ SeqAt.shaped x.dat = true ∧ x.fd = true
      · rw [if_pos h] at e
        obtain ⟨v, r, rfl, r3, r4⟩ := r2
        obtain rfl : r = [] := r4
        cases ei : idxD (datL xs) x.dat with
        | none => rw [ei] at e; cases e
        | some j =>
          rw [ei] at e
          cases e
          have d1 := r1.dp s rfl
          have d2 := (RO.ofF (H := H) r3).dp s h.2.2
          obtain ⟨a, us, rfl, h1, h2⟩ := r1.lstAt s
          unfold idxD at ei
          rw [List.findIdx?_eq_some_iff_getElem] at ei
          obtain ⟨hj, e1, e2⟩ := ei
          exact ⟨a, v, x.dat, datL xs, j, (datL xs)[j], rfl, rfl, d1, d2, h.1, h.2.1, List.getElem?_eq_getElem hj, e1, fun m z' hm hz' => by
            have hm2 : m < (datL xs).length := by omega
            rw [List.getElem?_eq_getElem hm2] at hz'
            have := e2 m hm
            cases hz'
            simpa using this, q.int s⟩
      · rw [if_neg h] at e; cases e
    · cases e
  | _ => cases e
theorem me_index {Z : Zt} {o e : Expr} {m : Sm W} {ma : Sm (List W)} {p1 p2 k1 : Bool} {k : Nat} {apos cpos : Pos} (hr : Room k Z.X.A) (ho : ME Z o m p1 k1) (ha : MA Z [e] ma p2)
    (hbase : attributeBase o "index" Z.X.env (eval o Z.X.env) = eval o Z.X.env := by rfl)
    (hfew : ((backTo cpos (starEach [e] Z.X.env)).all (fun x => !x.1) && (backToKw cpos (keywordEach [] Z.X.env)).all (fun x => x.1.isSome)
      && decide ([e].length + ([] : List Keyword).length + (if ([] : List Keyword).isEmpty then 0 else 1) < 30)) = true := by rfl)
    (hline : (apos.endLine == cpos.line) = true := by rfl) (hs : starEach [e] Z.X.env = (false, eval e Z.X.env) :: starEach [] Z.X.env := by rfl) :
    ME Z (.Call (.Attribute o "index" apos) [e] [] cpos) (mMeth tyLst indexW (k1 || p2) m ma) (p1 && p2) true :=
  me_meth PySem.F.plainAttrs_list PySem.F.slot_list_index PySem.F.type_list_index (mt_indexD (by have := hr.un; omega)) tyM_lst rel_index ho ha hbase hfew hline hs rfl
theorem shN (a : Nm) : PyData.canLay0 (encN a).dat = true := by simp [encN, W.dat, datL, PyData.canLay0, PyData.canLayAll0]
theorem shNs : ∀ l : List Nm, PyData.canLayAll0 (datL (l.map encN)) = true
  | [] => rfl
  | a :: l => by
    rw [List.map_cons, datL, PyData.canLayAll0, shN, shNs l]
    rfl
theorem idx_find : ∀ (l : List Nm) (a : Nm) (n : Nat), (∀ i, i < n → l[i]? ≠ some a) → l[n]? = some a → idxD (datL (l.map encN)) (encN a).dat = some n
  | [], a, n, _, h => by simp at h
  | x :: l, a, 0, _, h => by
    have e : x = a := by simpa using h
    subst e
    unfold idxD
    rw [List.map_cons, datL, List.findIdx?_cons, eqv_dec okN, decide_eq_true rfl]
    rfl
  | x :: l, a, n + 1, hn, h => by
    have ne : x ≠ a := fun e => hn 0 (by omega) (by simp [e])
    have ih := idx_find l a n (fun i hi => by have := hn (i + 1) (by omega); simpa using this) (by simpa using h)
    unfold idxD at ih ⊢
    rw [List.map_cons, datL, List.findIdx?_cons, eqv_dec okN, decide_eq_false ne, ih]
    rfl
theorem w_indexN (b : Bool) (l : List Nm) (a : Nm) (n : Nat) (hn : ∀ i, i < n → l[i]? ≠ some a) (h : l[n]? = some a) : indexW (.lst b (l.map encN)) [encN a] = some (.int (n : Nat)) := by
  have d1 : PyData.depthAll (datL (l.map encN)) ≤ 1 := okN.deps l
  have d2 : (encN a).dat.depth ≤ 1 := okN.dep a
  have s1 : SeqAt.shaped (.list (datL (l.map encN))) = true := by
    unfold SeqAt.shaped
    rw [Bool.and_eq_true, decide_eq_true_eq, PyData.canLay0, PyData.depth]
    exact ⟨shNs l, by omega⟩
  have s2 : SeqAt.shaped (encN a).dat = true := by
    unfold SeqAt.shaped
    rw [Bool.and_eq_true, decide_eq_true_eq]
    exact ⟨shN a, by omega⟩
  show (if SeqAt.shaped (.list (datL (l.map encN))) = true ∧ SeqAt.shaped (encN a).dat = true ∧ (encN a).fd = true then (idxD (datL (l.map encN)) (encN a).dat).map fun j => W.int (j : Nat) else none) = _
  rw [if_pos ⟨s1, s2, rfl⟩, idx_find l a n hn h]
  rfl
/-! ### x is None -/
def isNW (neg : Bool) (a b : W) : Option W := match b with
  | .non => match a with
    | .non => some (.bl (!neg))
    | .bl _ => some (.bl neg)
    | .int _ => some (.bl neg)
    | .str _ => some (.bl neg)
    | .tup _ => some (.bl neg)
    | .lst _ _ => some (.bl neg)
    | .scr _ => some (.bl neg)
    | .exc _ => some (.bl neg)
    | _ => none
  | _ => none
theorem RO.nonv {D : Dn} {G H : Hp} {a : W} {v : V} {O : List Addr} {n : Bool} {w : W} (s : Sub G H) (r : RO D G H a v O) (e : isNW n a .non = some w) : w = .bl (if v = .non then !n else n) := by
  cases a with
  | non => cases e; obtain ⟨_, rfl⟩ := r; rfl
  | bl b => cases e; obtain ⟨_, rfl⟩ := r; rfl
  | int b => cases e; obtain ⟨_, rfl⟩ := r; rfl
  | str b => cases e; obtain ⟨_, rfl⟩ := r; rfl
  | tup b => cases e; obtain ⟨_, a, vs, rfl, _⟩ := r; rfl
  | lst b ws => cases e; obtain ⟨a, vs, rfl, _⟩ := r.lstAt s; rfl
  | scr b => cases e; obtain ⟨_, a, vs, rfl, _⟩ := r; rfl
  | exc b => cases e; obtain ⟨_, a, rfl, _⟩ := r; rfl
  | _ => cases e
theorem op_isNW {Z : Zt} : OpS Z (compareOp .Is) (isNW false) := fun G H w1 w2 v1 v2 O1 O2 w Q s r1 r2 e q => by
  cases w2 with
  | non =>
    obtain ⟨_, rfl⟩ := r2
    have ew := RO.nonv s r1 e
    refine ⟨_, op_isN, rfl, ?_⟩
    rw [ew] at q
    have := q.bl s
    by_cases c : v1 = .non
    · rw [if_pos c] at this; rw [decide_eq_true c]; exact this
    · rw [if_neg c] at this; rw [decide_eq_false c]; exact this
  | _ => cases e
theorem op_isNotNW {Z : Zt} : OpS Z (compareOp .IsNot) (isNW true) := fun G H w1 w2 v1 v2 O1 O2 w Q s r1 r2 e q => by
  cases w2 with
  | non =>
    obtain ⟨_, rfl⟩ := r2
    have ew := RO.nonv s r1 e
    refine ⟨_, op_notN, rfl, ?_⟩
    rw [ew] at q
    have := q.bl s
    by_cases c : v1 = .non
    · rw [if_pos c] at this; rw [decide_eq_true c]; exact this
    · rw [if_neg c] at this; rw [decide_eq_false c]; exact this
  | _ => cases e
/-! ### xs[i] += n, xs owned, of ints -/
theorem getR_list {X : Cx} : PGet X (rIxL X.K) := by
  intro pins s σ H x y v u Q I rx ry h
  obtain ⟨p, xs, i, z, rfl, rfl, hq, he, q⟩ := h
  cases rx
  obtain ⟨t, rfl⟩ := ry
  obtain ⟨its, r, pl, hz⟩ := I.list hq
  obtain ⟨j, h1, h2, h3, h4, h5⟩ := atI_get he
  obtain ⟨w, ew, rw'⟩ := r.get h2
  have hl := r.length
  have hn := line63
  have fin : EP X pins σ Q w s := ⟨z, H, I, rw', q⟩
  by_cases h0 : 0 ≤ i
  · have hj : i.toNat = j := by
      rw [seqIndex_of h0 h5] at h1
      exact Option.some.inj h1
    exact wpAny_getItem_list pl.isList h0 (by omega) (by rw [hj]; simpa using ew) fin
  · have hj : (i + (its.toArray.size : Int)).toNat = j := by
      rw [seqIndex_neg (by omega) h4] at h1
      rw [List.size_toArray, ← hl]
      exact Option.some.inj h1
    exact wpAny_getItem_list_neg pl.isList (by omega) (by rw [List.size_toArray] <;> omega) (by omega) (by rw [hj]; simpa using ew) fin
def sAugS (i : Nat) (f : Int → Int → Int) (mi me : Sm W) : Sm Fl := fun env => match env[i]? with
  | some (.lst true _) => match mi env with
    | .ok (.int n) env1 => match env1[i]? with
      | some (.lst true xs) => match ixN xs.length n with
        | some k => match xs[k]? with
          | some (.int a) => match me env1 with
            | .ok (.int b) _ => .ok .nx (env1.set i (.lst true (xs.set k (.int (f a b)))))
            | _ => .bad
          | _ => .bad
        | none => .bad
      | _ => .bad
    | _ => .bad
  | _ => .bad
theorem r_augS {env : List W} (i : Nat) (f : Int → Int → Int) (mi me : Sm W) : sAugS i f mi me env = match env[i]? with
  | some (.lst true _) => (match mi env with
    | .ok (.int n) env1 => (match env1[i]? with
      | some (.lst true xs) => (match ixN xs.length n with
        | some k => (match xs[k]? with
          | some (.int a) => (match me env1 with
            | .ok (.int b) _ => .ok .nx (env1.set i (.lst true (xs.set k (.int (f a b)))))
            | _ => .bad)
          | _ => .bad)
        | none => .bad)
      | _ => .bad)
    | _ => .bad)
  | _ => .bad := rfl
theorem ms_augS {Z : Zt} {o ix e : Expr} {i : Nat} {op : Operator} {f : Int → Int → Int} {mi me : Sm W} {k1 k2 : Bool} {pos tpos : Pos} (ho : PE Z.X o (tVar i)) (hi : ME Z ix mi true k1) (hp : PIp Z.X op (ipI f)) (he : ME Z e me true k2)
    (ha : ∀ ov iv new, augStore ix ov iv new = (do holding [new, ov, iv] (setItem ov iv new); release [new, ov, iv] []; pure .next) := by intros; rfl) :
    MS Z (.AugAssign (.Subscript o ix tpos) op e pos) (sAugS i f mi me) := ps_imp (ps_augS ho hi getR_list he hp set_list ha) fun E σ H q => by
  obtain ⟨env, G, Os, s, q⟩ := q
  unfold sAugS at q
  cases e0 : env[i]? with
  | none => rw [e0] at q; exact q.elim
  | some w0 =>
    have key : ∃ xs0, w0 = .lst true xs0 := by
      rw [e0] at q
      cases w0 <;> first
        | exact q.elim
        | (rename_i b _; cases b <;> first | exact q.elim | exact ⟨_, rfl⟩)
    obtain ⟨xs0, rfl⟩ := key
    rw [e0] at q
    obtain ⟨a, vs0, h1, h2, h3, h4⟩ := s.sl.atOwn e0
    refine ⟨.ref a, h1, env, G, Os, s, ?_⟩
    cases ei : mi env with
    | bad => simp only [ei] at q; exact q.elim
    | ex c env1 => simp only [ei] at q; exact q.elim
    | ok wi env1 =>
      cases wi with
      | int n =>
        simp only [ei] at q
        intro jv G1 H1 Os1 Oj s1 rj oj t1
        obtain ⟨rfl, rfl, t1'⟩ := id t1
        obtain ⟨_, rfl⟩ := rj
        simp only [e0] at q
        cases ek : ixN xs0.length n with
        | none => simp only [ek] at q; exact q.elim
        | some k =>
          simp only [ek] at q
          cases ex : xs0[k]? with
          | none => simp only [ex] at q; exact q.elim
          | some wa =>
            cases wa with
            | int av =>
              simp only [ex] at q
              obtain ⟨a', vs1, g1, g2, g3, g4⟩ := s1.sl.atOwn e0
              rw [h1] at g1
              cases g1
              obtain ⟨v1, hv1, rv1⟩ := g4.get ex
              obtain rfl : v1 = .int av := rv1
              have hat : atI vs1 n = some (.int av) := by
                unfold atI
                rw [← g4.len, ek]
                exact hv1
              refine ⟨a, vs1, n, .int av, rfl, rfl, SqL.of g3, hat, env1, G1, Os1, s1, ?_⟩
              cases em : me env1 with
              | bad => simp only [em] at q; exact q.elim
              | ex c env2 => simp only [em] at q; exact q.elim
              | ok wb env2 =>
                cases wb with
                | int b =>
                  simp only [em] at q
                  intro v2 G2 H2 Os2 O2 s2 r2 o2 t2
                  obtain ⟨rfl, rfl, t2'⟩ := id t2
                  obtain ⟨_, rfl⟩ := r2
                  refine ⟨av, b, rfl, rfl, ?_⟩
                  obtain ⟨a'', vs2, k1, k2, k3, k4⟩ := s2.sl.atOwn e0
                  rw [h1] at k1
                  cases k1
                  obtain ⟨s3, t3⟩ := s2.mut h1 k2 k3 (k4.set (w := .int (f av b)) (v := .int (f av b)) rfl k)
                  exact ⟨a, vs2, n, k, rfl, rfl, k3, by rw [← k4.len]; exact ek, q σ G2 _ Os2 s3 ((t1.st.trans t2.st).trans t3) (IoS.refl _)⟩
                | _ => simp only [em] at q; exact q.elim
            | _ => simp only [ex] at q; exact q.elim
      | _ => simp only [ei] at q; exact q.elim
end Ev

namespace Ev
open PySem PySem.Spec L2
/-! ### zip of three lists -/
theorem draws_from {prog : Program} {w : World} {A : Around} (hh : A.handled = none) (it l : Addr) (hne : l ≠ it) (items : Array Value) (k : Nat) :
    Draws prog w A it [it, l] (if items.size ≤ k then k else items.size) (fun i v => items[i]? = some v) (fun i h => k ≤ i ∧ h.IsListIter it l i ∧ h.IsList l items) where
  live := fun _ _ st => let ⟨o, ho, _⟩ := st.2.1; ⟨o, ho⟩
  frame := fun _ _ _ st hk => ⟨st.1, st.2.1.at fun o e => hk it (by simp) o e, st.2.2.at fun o e => hk l (by simp) o e⟩
  item := fun i s Q E hi st hQ => by
    have hi2 : i < items.size := by
      have := st.1
      split at hi <;> omega
    refine wpAny_nextOf_list_item st.2.1 st.2.2 (x := items[i]) (by simp [hi2]) fun h' hit' hs' => ?_
    exact hQ _ h' s.toks (by simp [hi2]) ⟨by have := st.1; omega, hit', st.2.2.extBut hs'.extBut hne⟩ hs'
  done := fun s Q E st hE => wpAny_nextOf_list_end hh st.2.1 st.2.2 (by
    simp only [Array.getElem?_eq_none_iff]
    split <;> omega) hE
def Itz3 (K : PySem.W.Frag) (a b c : Addr) : It :=
  ⟨fun i H => ∃ (xs ys zs : List V) (x y z : V), SqL K H a xs ∧ SqL K H b ys ∧ SqL K H c zs ∧ xs[i]? = some x ∧ ys[i]? = some y ∧ zs[i]? = some z,
    fun i H v H' => ∃ T x y z, v = .ref T ∧ H T = none ∧ H' = upd H T (.tup [x, y, z]) ∧ (∀ xs, SqL K H a xs → xs[i]? = some x) ∧ (∀ ys, SqL K H b ys → ys[i]? = some y) ∧ ∀ zs, SqL K H c zs → zs[i]? = some z,
    fun i H => ∃ xs ys zs : List V, SqL K H a xs ∧ SqL K H b ys ∧ SqL K H c zs ∧ (xs.length ≤ i ∨ ys.length ≤ i ∨ zs.length ≤ i)⟩
theorem turn_zip3 {P : Program} {w : World} {K : PySem.W.Frag} {elts : List Expr} {kk : Nat} {tpos : Pos} {a b c z TI TO i1 i2 i3 : Addr} (S : ZipSep3 z TI TO i1 i2 i3 [i1, a] [i2, b] [i3, c]) (na : a ≠ i1) (nb : b ≠ i2) (nc : c ≠ i3) :
    Turn P w K (.Tuple elts kk tpos) (Itz3 K a b c) [z, TI, TO, i1, i2, i3] z (fun i h => IsZip h z TI TO .none ∧ IsTupOf3 h TI (.ref i1) (.ref i2) (.ref i3) ∧ (∃ x y u, IsTupOf3 h TO x y u) ∧ h.IsListIter i1 a i ∧ h.IsListIter i2 b i ∧ h.IsListIter i3 c i) where
  mem := by simp
  obj := fun i h st d hd => by
    obtain ⟨hz, hTI, ⟨x, y, u, hTO⟩, ⟨o1, e1, _, d1⟩, ⟨o2, e2, _, d2⟩, ⟨o3, e3, _, d3⟩⟩ := st
    have e' : d = z ∨ d = TI ∨ d = TO ∨ d = i1 ∨ d = i2 ∨ d = i3 := by simpa using hd
    rcases e' with q | q | q | q | q | q
    · rw [q]; exact ⟨_, hz, fun v q => nomatch q⟩
    · rw [q]; exact ⟨_, hTI, fun v q => nomatch q⟩
    · rw [q]; exact ⟨_, hTO, fun v q => nomatch q⟩
    · rw [q]; exact ⟨o1, e1, fun v q => by rw [d1] at q; cases q⟩
    · rw [q]; exact ⟨o2, e2, fun v q => by rw [d2] at q; cases q⟩
    · rw [q]; exact ⟨o3, e3, fun v q => by rw [d3] at q; cases q⟩
  keep := fun i h h' st k => by
    obtain ⟨hz, hTI, ⟨x, y, u, hTO⟩, h1, h2, h3⟩ := st
    exact ⟨k z (by simp) _ hz, k TI (by simp) _ hTI, ⟨x, y, u, k TO (by simp) _ hTO⟩, h1.at fun o q => k i1 (by simp) o q, h2.at fun o q => k i2 (by simp) o q, h3.at fun o q => k i3 (by simp) o q⟩
  item := by
    intro X hP hw hK hc i pins s σ H E I hf st hg
    subst hP hw hK
    obtain ⟨hz, hTI, ⟨x0, y0, u0, hTO⟩, h1, h2, h3⟩ := st
    obtain ⟨xs, ys, zs, x, y, u, hqx, hqy, hqz, hx, hy, hu⟩ := hg
    obtain ⟨its, rv, p, _⟩ := I.list hqx
    obtain ⟨its2, rv2, p2, _⟩ := I.list hqy
    obtain ⟨its3, rv3, p3, _⟩ := I.list hqz
    obtain ⟨v1, hv1, rx⟩ := rv.get hx
    obtain ⟨v2, hv2, ry⟩ := rv2.get hy
    obtain ⟨v3, hv3, ru⟩ := rv3.get hu
    have hh : X.A.in1.handled = none := I.ok.hd hc
    have lt {us : List V} {is : List Value} {w : V} (r : Vals us is) (h : us[i]? = some w) : i < (if is.toArray.size ≤ i then i else is.toArray.size) := by
      have l := r.length
      obtain ⟨q, _⟩ := List.getElem?_eq_some_iff.mp h
      rw [List.size_toArray]
      split <;> omega
    have hzl : z < s.heap.objs.size := Heap.lt_size hz
    refine wpAny_pyNext_zipD3_item S (draws_from hh i1 a na its.toArray i) (draws_from hh i2 b nb its2.toArray i) (draws_from hh i3 c nc its3.toArray i) hz hTI hTO ⟨Nat.le_refl _, h1, p.isList⟩ ⟨Nat.le_refl _, h2, p2.isList⟩ ⟨Nat.le_refl _, h3, p3.isList⟩ (lt rv hx) (lt rv2 hy) (lt rv3 hu) fun x1 x2 x3 h' tk y1 y2 y3 hz' hTO' s1 s2 s3 hT hsz hk => ?_
    have w1 : x1 = v1 := by
      have : its.toArray[i]? = some v1 := by simpa using hv1
      exact Option.some.inj (y1.symm.trans this)
    have w2 : x2 = v2 := by
      have : its2.toArray[i]? = some v2 := by simpa using hv2
      exact Option.some.inj (y2.symm.trans this)
    have w3 : x3 = v3 := by
      have : its3.toArray[i]? = some v3 := by simpa using hv3
      exact Option.some.inj (y3.symm.trans this)
    subst w1 w2 w3
    refine ⟨_, rfl, wpAny_letOwnedTupleGo_zip (s := { s with heap := h', toks := tk }) hz' fun h'' z'' sb => ?_⟩
    have hT2 : h''.get? s.heap.objs.size = some { cls := .type "tuple", data := .seq #[x1, x2, x3] } := (sb.2 _ (Nat.ne_of_gt hzl)).trans hT
    have new : ObjOk X.prog X.w (upd H s.heap.objs.size (.tup [x, y, u])) h'' s.heap.objs.size (.tup [x, y, u]) :=
      ⟨by show 3 ≤ sizeLine; decide, [x1, x2, x3], .cons rx (.cons ry (.cons ru .nil)), ⟨_, hT2, rfl, _, rfl⟩⟩
    have I1 : Inv X pins σ (upd H s.heap.objs.size (.tup [x, y, u])) { s with heap := h'', toks := tk } :=
      I.turnedNew (t' := tk) (ch := [z, TI, TO, i1, i2, i3]) (fun d o hb q => (sb.2 d (fun q' => hb (by simp [q']))).trans (hk d o (fun q' => hb (by simp [q'])) (fun q' => hb (by simp [q'])) (fun q' => hb (by simp [q'])) (fun q' => hb (by simp [q'])) (fun q' => hb (by simp [q'])) q)) hf (Nat.le_refl _) new
    refine ⟨.ref s.heap.objs.size, _, I1, rfl, ⟨_, x, y, u, rfl, I.hok.fresh (Nat.le_refl _), rfl, fun l hl => by rw [I.list_inj hl hqx]; exact hx, fun l hl => by rw [I.list_inj hl hqy]; exact hy, fun l hl => by rw [I.list_inj hl hqz]; exact hu⟩, ⟨z'', ?_, ⟨x1, x2, x3, ?_⟩, ?_, ?_, ?_⟩, fun d hdm => ?_⟩
    · exact (sb.2 _ S.TIz).trans (hk _ _ S.TIz S.TITO S.TIi1 S.TIi2 S.TIi3 hTI)
    · exact (sb.2 _ S.TOz).trans hTO'
    · exact s1.2.1.at fun o q => (sb.2 _ S.zi1.symm).trans q
    · exact s2.2.1.at fun o q => (sb.2 _ S.zi2.symm).trans q
    · exact s3.2.1.at fun o q => (sb.2 _ S.zi3.symm).trans q
    · have hlt : d < s.heap.objs.size := by
        have e' : d = z ∨ d = TI ∨ d = TO ∨ d = i1 ∨ d = i2 ∨ d = i3 := by simpa using hdm
        rcases e' with q | q | q | q | q | q
        · rw [q]; exact hzl
        · rw [q]; exact Heap.lt_size hTI
        · rw [q]; exact Heap.lt_size hTO
        · rw [q]; obtain ⟨_, e1, _⟩ := h1; exact Heap.lt_size e1
        · rw [q]; obtain ⟨_, e2, _⟩ := h2; exact Heap.lt_size e2
        · rw [q]; obtain ⟨_, e3, _⟩ := h3; exact Heap.lt_size e3
      rw [upd_ne (Nat.ne_of_lt hlt)]
      exact (hf d hdm).1
  done := by
    intro X hP hw hK hc i pins s σ H E I hf st hg
    subst hP hw hK
    obtain ⟨hz, hTI, ⟨x0, y0, u0, hTO⟩, h1, h2, h3⟩ := st
    obtain ⟨xs, ys, zs, hqx, hqy, hqz, hend⟩ := hg
    obtain ⟨its, rv, p, _⟩ := I.list hqx
    obtain ⟨its2, rv2, p2, _⟩ := I.list hqy
    obtain ⟨its3, rv3, p3, _⟩ := I.list hqz
    have l1 := rv.length
    have l2 := rv2.length
    have l3 := rv3.length
    have hh : X.A.in1.handled = none := I.ok.hd hc
    have le (is : List Value) : i ≤ (if is.toArray.size ≤ i then i else is.toArray.size) := by split <;> omega
    refine wpAny_pyNext_zipD3_end S (draws_from hh i1 a na its.toArray i) (draws_from hh i2 b nb its2.toArray i) (draws_from hh i3 c nc its3.toArray i) hz hTI hTO ⟨Nat.le_refl _, h1, p.isList⟩ ⟨Nat.le_refl _, h2, p2.isList⟩ ⟨Nat.le_refl _, h3, p3.isList⟩ (le _) (le _) (le _) ?_ fun h' tk hk => ⟨rfl, I.turnedL (t' := tk) (ch := [z, TI, TO, i1, i2, i3]) (fun d o hb q =>
      hk d o (fun q' => hb (by simp [q'])) (fun q' => hb (by simp [q'])) (fun q' => hb (by simp [q'])) (fun q' => hb (by simp [q'])) (fun q' => hb (by simp [q'])) q) hf⟩
    simp only [List.size_toArray]
    rcases hend with q | q | q
    · exact .inl (by rw [if_pos (by omega)])
    · exact .inr (.inl (by rw [if_pos (by omega)]))
    · exact .inr (.inr (by rw [if_pos (by omega)]))
  self := fun A i s Q E st h => wpAny_pyIter_zip st.1 h
def iZip3 (K : PySem.W.Frag) (ta : TA) : TI := fun σ H R => ta σ H fun vs H1 => ∃ a b c xs ys zs, vs = [.ref a, .ref b, .ref c] ∧ SqL K H1 a xs ∧ SqL K H1 b ys ∧ SqL K H1 c zs ∧ R (Itz3 K a b c) H1
theorem pi_zip3 {X : Cx} {e e2 e3 : Expr} {ta : TA} {p pos tpos : Pos} {elts : List Expr} {kk : Nat} (hg : Gl X "zip") (hm : X.mg "zip" = none) (ha : PA X [e, e2, e3] ta)
    (hs : starEach [e, e2, e3] X.env = (false, eval e X.env) :: starEach [e2, e3] X.env := by rfl) (hpl : (backTo pos (starEach [e2, e3] X.env)).any (·.1) = false := by rfl) :
    PI X (.Tuple elts kk tpos) (.Call (.Name "zip" p) [e, e2, e3] [] pos) (iZip3 X.K ta) := by
  refine ⟨fun pins s σ H R I h => ?_⟩
  refine PyProof.Rows.Call_ (ld_blt I hg hm PyProof.Rows.boot_zip (PyProof.Rows.callWith_type1 (thn (ha.run pos pins s σ H _ I h) fun us s1 ⟨vs, H1, I1, r1, q1⟩ => ?_) hs hpl))
  obtain ⟨a, b, c, xs, ys, zs, ex, hqx, hqy, hqz, q⟩ := q1
  subst ex
  cases r1 with
  | cons r rr =>
    cases rr with
    | cons r' rr =>
      cases rr with
      | cons r'' rr =>
        cases rr
        cases r
        cases r'
        cases r''
        obtain ⟨its, rv, p1, _⟩ := I1.list hqx
        obtain ⟨its2, rv2, p2, _⟩ := I1.list hqy
        obtain ⟨its3, rv3, p3, _⟩ := I1.list hqz
        have la : a < s1.heap.objs.size := p1.lt
        have lb : b < s1.heap.objs.size := p2.lt
        have lc : c < s1.heap.objs.size := p3.lt
        refine zip_begins3 (begins_list a its.toArray) (begins_list b its2.toArray) (begins_list c its3.toArray) p1.isList p2.isList p3.isList fun h' hz hTI hTO g1 g2 g3 hsz hk => wpAny_pyIter_zip hz ?_
        have I2 : Inv X pins σ H1 { s1 with heap := h' } := I1.kept (t' := s1.toks) hk
        have S : ZipSep3 (s1.heap.objs.size + 5) (s1.heap.objs.size + 3) (s1.heap.objs.size + 4) s1.heap.objs.size (s1.heap.objs.size + 1) (s1.heap.objs.size + 2) [s1.heap.objs.size, a] [s1.heap.objs.size + 1, b] [s1.heap.objs.size + 2, c] := zip_sep3 (fun d hd => by rw [List.mem_singleton.mp hd]; exact la) (fun d hd => by rw [List.mem_singleton.mp hd]; exact lb) (fun d hd => by rw [List.mem_singleton.mp hd]; exact lc)
        have na : a ≠ s1.heap.objs.size := Nat.ne_of_lt la
        have nb : b ≠ s1.heap.objs.size + 1 := Nat.ne_of_lt (Nat.lt_succ_of_lt lb)
        have nc : c ≠ s1.heap.objs.size + 2 := Nat.ne_of_lt (Nat.lt_succ_of_lt (Nat.lt_succ_of_lt lc))
        refine ⟨s1.heap.objs.size + 5, [s1.heap.objs.size + 5, s1.heap.objs.size + 3, s1.heap.objs.size + 4, s1.heap.objs.size, s1.heap.objs.size + 1, s1.heap.objs.size + 2], _, _, H1, rfl, I2, turn_zip3 S na nb nc, ⟨hz, hTI, ⟨_, _, _, hTO⟩, ⟨_, g1, rfl, rfl⟩, ⟨_, g2, rfl, rfl⟩, ⟨_, g3, rfl, rfl⟩⟩, fun d hdm => ?_, q⟩
        have e' : d = s1.heap.objs.size + 5 ∨ d = s1.heap.objs.size + 3 ∨ d = s1.heap.objs.size + 4 ∨ d = s1.heap.objs.size ∨ d = s1.heap.objs.size + 1 ∨ d = s1.heap.objs.size + 2 := by simpa using hdm
        have hle : s1.heap.objs.size ≤ d := by
          rcases e' with z | z | z | z | z | z
          · rw [z]; exact Nat.le_add_right _ _
          · rw [z]; exact Nat.le_add_right _ _
          · rw [z]; exact Nat.le_add_right _ _
          · rw [z]; exact Nat.le_refl _
          · rw [z]; exact Nat.le_add_right _ _
          · rw [z]; exact Nat.le_add_right _ _
        exact I1.fpOk hle (I1.hok.fresh hle)
theorem walks_zip3 {D : Dn} {G0 : Hp} {a b c : Addr} {ws xs ys : List W} {vs us ts : List V} (h : SqL D.K G0 a vs) (r : RFs D G0 ws vs) (h' : SqL D.K G0 b us) (r' : RFs D G0 xs us) (h'' : SqL D.K G0 c ts) (r'' : RFs D G0 ys ts) : Walks D (Itz3 D.K a b c) ((ws.zip (xs.zip ys)).map fun q => .tup [q.1, q.2.1, q.2.2]) G0 := fun i G H s0 s => by
  have hs : SqL D.K H a vs := s.sqL (s0.sqL h)
  have hs' : SqL D.K H b us := s.sqL (s0.sqL h')
  have hs'' : SqL D.K H c ts := s.sqL (s0.sqL h'')
  refine ⟨fun x e => ?_, fun hl => ⟨vs, us, ts, hs, hs', hs'', ?_⟩⟩
  · rw [List.getElem?_map] at e
    cases e1 : (ws.zip (xs.zip ys))[i]? with
    | none => rw [e1] at e; cases e
    | some w =>
      rw [e1] at e
      cases e
      obtain ⟨k1, k23⟩ := List.getElem?_zip_eq_some.mp e1
      obtain ⟨k2, k3⟩ := List.getElem?_zip_eq_some.mp k23
      obtain ⟨v, h1, h2⟩ := r.get k1
      obtain ⟨u, g1, g2⟩ := r'.get k2
      obtain ⟨t, f1, f2⟩ := r''.get k3
      refine ⟨⟨vs, us, ts, v, u, t, hs, hs', hs'', h1, g1, f1⟩, fun v' H' y => ?_⟩
      obtain ⟨T, x, y', z', rfl, nT, rfl, y1, y2, y3⟩ := y
      have e2 : x = v := Option.some.inj ((y1 vs hs).symm.trans h1)
      have e3 : y' = u := Option.some.inj ((y2 us hs').symm.trans g1)
      have e4 : z' = t := Option.some.inj ((y3 ts hs'').symm.trans f1)
      subst e2 e3 e4
      have st := step_frz (o := .tup [x, y', z']) s nT
      refine ⟨_, st, sub_upd2 s, T, _, rfl, SqT.of upd_same, ?_⟩
      exact ⟨_, _, rfl, RF.mono (s0.trans st.mono) _ _ h2, _, _, rfl, RF.mono (s0.trans st.mono) _ _ g2, _, _, rfl, RF.mono (s0.trans st.mono) _ _ f2, rfl⟩
  · rw [List.length_map, List.length_zip, List.length_zip] at hl
    rw [← r.len, ← r'.len, ← r''.len]
    omega
def zipL3 : List W → Option (List W)
  | [w, x, y] => (frzL w).bind fun ws => (frzL x).bind fun xs => (frzL y).map fun ys => (ws.zip (xs.zip ys)).map fun q => .tup [q.1, q.2.1, q.2.2]
  | _ => none
theorem mi_zip3 {Z : Zt} {a b c : Expr} {m : Sm (List W)} {p : Bool} {p1 p2 : Pos} {elts : List Expr} {kk : Nat} {tpos : Pos} (hm : Z.X.mg "zip" = none) (ha : MA Z [a, b, c] m p) (hg : Gl Z.X "zip" := by rfl) (hs : starEach [a, b, c] Z.X.env = (false, eval a Z.X.env) :: starEach [b, c] Z.X.env := by rfl) (hpl : (backTo p2 (starEach [b, c] Z.X.env)).any (·.1) = false := by rfl) :
    MI Z (.Tuple elts kk tpos) (.Call (.Name "zip" p1) [a, b, c] [] p2) (iArgs zipL3 m) p :=
  pi_imp (pi_zip3 hg hm ha hs hpl) fun σ H R q => ta_iter (r := fun vs H1 R => ∃ a b c xs ys zs, vs = [.ref a, .ref b, .ref c] ∧ SqL Z.X.K H1 a xs ∧ SqL Z.X.K H1 b ys ∧ SqL Z.X.K H1 c zs ∧ R (Itz3 Z.X.K a b c) H1) (fun G H ws xs vs R s r e q => by
    unfold zipL3 at e
    split at e
    · rename_i w x y
      cases e1 : frzL w with
      | none => rw [e1] at e; cases e
      | some ws =>
        cases e2 : frzL x with
        | none => rw [e1, Option.bind_some, e2] at e; cases e
        | some xs =>
          cases e3 : frzL y with
          | none => rw [e1, Option.bind_some, e2, Option.bind_some, e3] at e; cases e
          | some ys =>
            rw [e1, Option.bind_some, e2, Option.bind_some, e3] at e
            cases e
            obtain ⟨v, _, rfl, h1, u, _, rfl, h2, t, _, rfl, h3, h4⟩ := r
            cases h4
            obtain ⟨a, us, rfl, f1, f2⟩ := frzL_at h1 e1
            obtain ⟨b, us', rfl, g1, g2⟩ := frzL_at h2 e2
            obtain ⟨c, us'', rfl, k1, k2⟩ := frzL_at h3 e3
            exact ⟨a, b, c, us, us', us'', rfl, s.sqL f1, s.sqL g1, s.sqL k1, q _ (walks_zip3 f1 f2 g1 g2 k1 k2)⟩
    · cases e) q
theorem w_zip3 (ws xs ys : List W) : zipL3 [.lst false ws, .lst false xs, .lst false ys] = some ((ws.zip (xs.zip ys)).map fun q => .tup [q.1, q.2.1, q.2.2]) := rfl
end Ev

namespace Ev
open PySem PySem.Spec L2
/-! ### walking a text, sign by sign -/
def strL : W → Option (List W)
  | .str z => some (z.cps.toList.map fun c => .str ⟨#[c]⟩)
  | _ => none
def iChr (m : Sm W) : Sm (List W) := Sm.bind m fun w => lft (strL w)
theorem r_ichr {env : List W} (m : Sm W) : iChr m env = match m env with
  | .ok w e' => (match strL w with
    | some r => .ok r e'
    | none => .bad)
  | .ex c e' => .ex c e'
  | .bad => .bad := by
  unfold iChr
  rw [r_bind]
  cases m env with
  | ok w e' => dsimp only; rw [r_lft]; cases strL w <;> rfl
  | _ => rfl
theorem w_strL (z : Str) : strL (.str z) = some (z.cps.toList.map fun c => .str ⟨#[c]⟩) := rfl
theorem walks_chr {D : Dn} {G0 : Hp} {z : Str} : Walks D (Its z) (z.cps.toList.map fun c => W.str ⟨#[c]⟩) G0 := fun i G H s0 s => by
  refine ⟨fun x e => ?_, fun hl => by rw [List.length_map, Array.length_toList] at hl; exact hl⟩
  rw [List.getElem?_map] at e
  cases ec : z.cps.toList[i]? with
  | none => rw [ec] at e; cases e
  | some c =>
    rw [ec] at e
    cases e
    have hi : i < z.cps.size := by
      have := (List.getElem?_eq_some_iff.mp ec).1
      rwa [Array.length_toList] at this
    refine ⟨hi, fun v H' y => ?_⟩
    obtain ⟨rfl, c', hc', rfl⟩ := y
    have e2 : c' = c := by
      rw [Array.getElem?_toList] at ec
      exact Option.some.inj (hc'.symm.trans ec)
    subst e2
    exact ⟨G, Step.refl _ _ _, s, rfl⟩
theorem mi_chr {Z : Zt} {tg e : Expr} {m : Sm W} {p k : Bool} (h : ME Z e m p k) : MI Z tg e (iChr m) p := pi_imp (pi_str h) fun σ H R q => by
  obtain ⟨env, G, Os, s, q⟩ := q
  refine ⟨env, G, Os, s, ?_⟩
  unfold iChr Sm.bind lft at q
  cases e : m env with
  | bad => rw [e] at q; exact q
  | ex c env1 => rw [e] at q; exact q
  | ok w env1 =>
    rw [e] at q
    intro v G' H' Os' Ow s' r o t
    have t' := t.less (O2 := []) kO_less
    cases w with
    | str z =>
      obtain ⟨rfl, rfl⟩ := r
      exact ⟨z, rfl, q _ G' H' Os' s' t' walks_chr⟩
    | _ => exact q.elim
theorem w_inS (neg : Bool) (c : Nat) (z : Str) : inW neg (.str ⟨#[c]⟩) (.str z) = some (.bl (if neg = true then !decide (c ∈ z.cps.toList) else decide (c ∈ z.cps.toList))) := by
  have e : (!(Builtin.Str.occurrences z ⟨#[c]⟩ 0 z.length 1).isEmpty) = decide (c ∈ z.cps.toList) := StrLaws.found_one z c
  show some (W.bl (if neg then !(!(Builtin.Str.occurrences z ⟨#[c]⟩ 0 z.length 1).isEmpty) else !(Builtin.Str.occurrences z ⟨#[c]⟩ 0 z.length 1).isEmpty)) = _
  rw [e]
/-! ### a >= b, tuples too -/
def geXD (a b : W) : Option W := if (a.fd && b.fd) = true ∧ smallD a b ∧ PySem.W.alike a.dat b.dat = true then some (.bl (!PySem.W.dataLt a.dat b.dat)) else none
def geXW : W → W → Option W
  | .int i, .int j => some (.bl (decide (j ≤ i)))
  | .tup xs, .tup ys => geXD (.tup xs) (.tup ys)
  | _, _ => none
theorem w_geX (i j : Int) : geXW (.int i) (.int j) = some (.bl (decide (j ≤ i))) := rfl
theorem op_geXW {Z : Zt} {k : Nat} (hr : Room k Z.X.A) : OpS Z (compareOp .GtE) geXW := fun G H w1 w2 v1 v2 O1 O2 w Q s r1 r2 e q => by
  cases w1 with
  | int i =>
    cases w2 with
    | int j =>
      cases e
      obtain ⟨_, rfl⟩ := r1
      obtain ⟨_, rfl⟩ := r2
      exact ⟨_, op_ge, i, j, rfl, rfl, q.bl s⟩
    | _ => cases e
  | tup xs =>
    cases w2 with
    | tup ys =>
      have e' : geXD (.tup xs) (.tup ys) = some w := e
      unfold geXD at e'
      by_cases hc : ((W.tup xs).fd && (W.tup ys).fd) = true ∧ smallD (.tup xs) (.tup ys) ∧ PySem.W.alike (W.tup xs).dat (W.tup ys).dat = true
      · rw [if_pos hc] at e'
        cases e'
        obtain ⟨_, hs, ha⟩ := hc
        have d1 := r1.dp s rfl
        have d2 := r2.dp s rfl
        refine ⟨fun x y H' Q' => x = v1 ∧ y = v2 ∧ H' = H ∧ Q' (.bl (!PySem.W.dataLt (W.tup xs).dat (W.tup ys).dat)) H, fun pins st σ H' x y v u Q' I rx ry hh => ?_, rfl, rfl, rfl, q.bl s⟩
        obtain ⟨rfl, rfl, rfl, hq⟩ := hh
        obtain ⟨as, x1⟩ := Dp.reads I _ _ v d1 rx
        obtain ⟨bs, x2⟩ := Dp.reads I _ _ u d2 ry
        have := hs.min
        have := hr.units
        exact PySem.W.rcGe_alike _ _ Z.X.A st v u as bs x1 x2 ha (fun z => nomatch z) (by omega) _ _ _ _ ⟨.bl _, _, I, rfl, hq⟩
      · rw [if_neg hc] at e'; cases e'
    | _ => cases e
  | _ => cases e
theorem w_geN (a b : Nm) : geXW (encN a) (encN b) = some (.bl (!decide (ltN a b))) := by
  show geXD (encN a) (encN b) = _
  unfold geXD
  rw [if_pos ⟨rfl, .inl (Nat.le_trans (okN.dep a) (by decide)), alikeN a b⟩, dataLtN]
end Ev

namespace Ev
open PySem PySem.Spec L2
/-- behind an answer, a pure step -/
theorem Stp.then {p : Bool} {env env1 : List W} {G H G1 H1 G2 H2 : Hp} {Os Os1 : List (List Addr)} {O1 O2 : List Addr} (a : Stp p env G H Os env1 G1 H1 Os1 O1) (b : Step G1 H1 O1 G2 H2 O2) : Stp p env G H Os env1 G2 H2 Os1 O2 := by
  cases p with
  | true =>
    obtain ⟨e1, e2, a⟩ := a
    exact ⟨e1, e2, a.trans b⟩
  | false =>
    have a' : Step G H Os.flatten G1 H1 (Os1.flatten ++ O1) := a
    show Step G H Os.flatten G2 H2 (Os1.flatten ++ O2)
    exact a'.trans b.more
theorem Step.pureO {G H G' H' : Hp} {O : List Addr} (a : Step G H [] G' H' []) : Step G H O G' H' O := by
  have z := a.pure0 (O := O)
  rwa [List.append_nil] at z
/-! ### a pair, the first one owned -/
def mPair (m1 m2 : Sm W) : Sm W := fun env => match m1 env with
  | .ok w1 env1 => match m2 env1 with
    | .ok w2 _ => if w2.frz = true then .ok (.ntp [w1, w2]) env1 else .bad
    | _ => .bad
  | .ex c env1 => .ex c env1
  | .bad => .bad
theorem r_pair {env : List W} (m1 m2 : Sm W) : mPair m1 m2 env = match m1 env with
  | .ok w1 env1 => (match m2 env1 with
    | .ok w2 _ => if w2.frz = true then .ok (.ntp [w1, w2]) env1 else .bad
    | _ => .bad)
  | .ex c env1 => .ex c env1
  | .bad => .bad := rfl
theorem tx_pair {D : Dn} {Wx : WX} {m1 m2 : Sm W} {p1 k2 : Bool} {σ : St} {H : Hp} {Q : VK} (q : TX D Wx p1 true (mPair m1 m2) σ H Q) :
    TX D Wx p1 true m1 σ H fun x H1 => TX D Wx true k2 m2 σ H1 fun y H2 => 2 ≤ sizeLine ∧ ∀ p, H2 p = none → Q (.ref p) (upd H2 p (.tup [x, y])) := by
  obtain ⟨env, G, Os, s, q⟩ := q
  refine ⟨env, G, Os, s, ?_⟩
  unfold mPair at q
  cases e1 : m1 env with
  | bad => rw [e1] at q; exact q
  | ex c env1 => rw [e1] at q; exact q
  | ok w1 env1 =>
    rw [e1] at q
    intro x G1 H1 Os1 O1 s1 r1 o1 t1
    refine ⟨env1, G1, Os1, s1, ?_⟩
    cases e2 : m2 env1 with
    | bad => simp only [e2] at q
    | ex c env2 => simp only [e2] at q
    | ok w2 env2 =>
      simp only [e2] at q
      intro y G2 H2 Os2 O2 s2 r2 o2 t2
      obtain ⟨rfl, rfl, t2'⟩ := id t2
      by_cases hf : w2.frz = true
      · simp only [if_pos hf] at q
        obtain ⟨rfl, f2⟩ := r2.toF hf
        have r1' : RO D G2 H2 w1 x O1 := stay s1 r1 o1 t2 rfl
        refine ⟨by have := line_ge; omega, fun p n => ?_⟩
        have st := step_frz (o := .tup [x, y]) s2.sub n
        have t2'' : Step G1 H1 [] G2 H2 [] := t2'.less fun _ z => nomatch z
        have ne : ∀ a ∈ O1, a ≠ p := fun a ha e => RO.there w1 x O1 r1' a ha (by rw [e]; exact n)
        refine q (.ref p) _ _ Os2 O1 (s2.step st (sub_upd2 s2.sub)) ⟨p, [x, y], rfl, SqT.of upd_same, x, [y], O1, [], rfl, (List.append_nil _).symm, RO.mono st.mono _ _ _ (fun a ha o h => by rw [upd_ne (ne a ha)]; exact h) r1', y, [], [], [], rfl, rfl, RO.ofF (RF.mono st.mono _ _ f2), rfl, rfl⟩ ⟨o1.1, fun a ha => ?_⟩ ?_
        · rw [upd_ne (ne a ha)]
          obtain ⟨o, h1, nt⟩ := RO.thn w1 x O1 r1 a ha
          exact t2''.gnew a o h1 (fun z => nomatch z) nt (o1.2 a ha)
        · exact (t1.then (t2''.pureO)).then st.pureO
      · simp only [if_neg hf] at q
theorem me_pair {Z : Zt} {e1 e2 : Expr} {m1 m2 : Sm W} {p1 k2 : Bool} {k : Nat} {pos : Pos} (h1 : ME Z e1 m1 p1 true) (h2 : ME Z e2 m2 true k2)
    (hs : starEach [e1, e2] Z.X.env = (false, eval e1 Z.X.env) :: starEach [e2] Z.X.env := by rfl) (hs2 : starEach [e2] Z.X.env = (false, eval e2 Z.X.env) :: starEach [] Z.X.env := by rfl) :
    ME Z (.Tuple [e1, e2] k pos) (mPair m1 m2) p1 true := pe_imp (pe_tup (pa_cons h1 (pa_cons h2 pa_nil hs2) hs)) fun σ H Q q => tx_pair q
/-! ### t[e].append(..) and the like, t a tuple, t[e] owned -/
theorem Sl.atNtp {D : Dn} {G H : Hp} {env : List W} {σ : St} {Os : List (List Addr)} {i : Nat} {ws : List W} (s : Sl D G H env σ Os) (e : env[i]? = some (.ntp ws)) : ∃ a vs O, σ[i]? = some (some (.ref a)) ∧ Os[i]? = some O ∧ SqT D.K G a vs ∧ ROs D G H ws vs O := by
  obtain ⟨sv, O, h1, h2, h3⟩ := s.at e
  rcases h3 with ⟨v, rfl, a, vs, rfl, h4, h5⟩ | ⟨z, _⟩
  · exact ⟨a, vs, O, h1, h2, h4, h5⟩
  · cases z
def mMutT (i : Nat) (F : MutF) (mi : Sm W) (m : Sm (List W)) : Sm W := fun env => match env[i]? with
  | some (.ntp ws) => match mi env with
    | .ok (.int n) _ => match ixN ws.length n with
      | some j => match ws[j]? with
        | some (.lst true xs) => match m env with
          | .ok us _ => match F xs us with
            | some (w, xs') => .ok w (env.set i (.ntp (ws.set j (.lst true xs'))))
            | none => .bad
          | .ex c _ => .ex c env
          | .bad => .bad
        | _ => .bad
      | none => .bad
    | .ex c _ => .ex c env
    | _ => .bad
  | _ => .bad
theorem r_mutT {env : List W} (i : Nat) (F : MutF) (mi : Sm W) (m : Sm (List W)) : mMutT i F mi m env = match env[i]? with
  | some (.ntp ws) => (match mi env with
    | .ok (.int n) _ => (match ixN ws.length n with
      | some j => (match ws[j]? with
        | some (.lst true xs) => (match m env with
          | .ok us _ => (match F xs us with
            | some (w, xs') => .ok w (env.set i (.ntp (ws.set j (.lst true xs'))))
            | none => .bad)
          | .ex c _ => .ex c env
          | .bad => .bad)
        | _ => .bad)
      | none => .bad)
    | .ex c _ => .ex c env
    | _ => .bad)
  | _ => .bad := rfl
theorem tx_mutT {Z : Zt} {i : Nat} {F : MutF} {mi : Sm W} {m : Sm (List W)} {k : Bool} {σ : St} {H : Hp} {Q : VK} {r : V → List V → Hp → VK → Prop}
    (hr : ∀ (G H : Hp) (a : Addr) (xs ws : List W) (vs us : List V) (w : W) (xs' : List W) (Q : VK), Sub G H → H a = some (.lst vs) → RFs Z.D G xs vs → RFs Z.D G ws us → F xs ws = some (w, xs') → (∀ v vs', RF Z.D G w v → RFs Z.D G xs' vs' → Q v (upd H a (.lst vs'))) → r (.ref a) us H Q)
    (q : TX Z.D Z.W false true (mMutT i F mi m) σ H Q) : tOp (rIxT Z.X.K) (tVar i) (TX Z.D Z.W true k mi) σ H fun x H1 => tyV Z.X.K "list" x H1 ∧ TA' Z.D Z.W true m σ H1 fun us H2 => r x us H2 Q := by
  obtain ⟨env, G, Os, s, q⟩ := q
  unfold mMutT at q
  cases e : env[i]? with
  | none => rw [e] at q; exact q.elim
  | some w0 =>
    have key : ∃ xs0, w0 = .ntp xs0 := by
      rw [e] at q
      cases w0 <;> first
        | exact q.elim
        | exact ⟨_, rfl⟩
    obtain ⟨ws, rfl⟩ := key
    rw [e] at q
    obtain ⟨a, vs0, O0, h1, h2, h3, h4⟩ := s.sl.atNtp e
    refine ⟨.ref a, h1, env, G, Os, s, ?_⟩
    cases ei : mi env with
    | bad => simp only [ei] at q
    | ex c env1 =>
      simp only [ei] at q
      intro G' H' Os' s' t
      obtain ⟨rfl, rfl, _⟩ := id t
      exact q G' H' Os' s' (Stp.gen t)
    | ok wi env1 =>
      intro iv G1 H1 Os1 Oi s1 ri oi t1
      obtain ⟨rfl, rfl, t1'⟩ := id t1
      cases wi with
      | int n =>
        simp only [ei] at q
        cases ej : ixN ws.length n with
        | none => simp only [ej] at q
        | some j =>
          simp only [ej] at q
          cases ew : ws[j]? with
          | none => simp only [ew] at q
          | some wj =>
            have key1 : ∃ xs, wj = .lst true xs := by
              cases wj <;> first
                | (exfalso; simp only [ew] at q; done)
                | (rename_i b _; cases b <;> first | (exfalso; simp only [ew] at q; done) | exact ⟨_, rfl⟩)
            obtain ⟨xs, rfl⟩ := key1
            simp only [ew] at q
            obtain ⟨_, rfl⟩ := ri
            obtain ⟨a', vs1, O1, g1, g2, g3, g4⟩ := s1.sl.atNtp e
            rw [h1] at g1
            cases g1
            have nd1 : O1.Nodup := nd_at s1.nd g2
            obtain ⟨b, us, c1, c2, c3, c4, c5⟩ := g4.child nd1 ew
            have ha : atI vs1 n = some (.ref b) := by
              unfold atI
              rw [← g4.len, ej]
              exact c1
            refine ⟨a, vs1, n, .ref b, rfl, rfl, s1.sub.sqT g3, ha, .inl ⟨rfl, _, SqL.of c3⟩, env1, G1, Os1, s1, ?_⟩
            cases em : m env1 with
            | bad => simp only [em] at q
            | ex c env2 =>
              simp only [em] at q
              intro G' H' Os' s' t
              obtain ⟨rfl, rfl, t'⟩ := id t
              exact q G' H' Os' s' ((Stp.gen t1).less (fun x hx => List.mem_append_left _ (by simpa using hx)) |>.trans (Stp.gen t))
            | ok as env2 =>
              simp only [em] at q
              intro asv G2 H2 Os2 s2 ra t2
              obtain ⟨rfl, rfl, t2'⟩ := id t2
              cases eF : F xs as with
              | none => simp only [eF] at q
              | some ww =>
                obtain ⟨w, xs'⟩ := ww
                simp only [eF] at q
                have k4 : ROs Z.D G2 H2 ws vs1 O1 := ROs.mono t2'.mono _ _ _ (fun b _ x hx => t2'.keep b x hx (fun z => nomatch z)) g4
                obtain ⟨b2, us2, d1, d2, d3, d4, d5⟩ := k4.child nd1 ew
                rw [c1] at d1
                cases d1
                refine hr G2 H2 b xs as us2 asv w xs' Q s2.sub d3 d4 ra eF fun v us' rv rvs => ?_
                have ro : RO Z.D G2 (upd H2 b (.lst us')) (.ntp (ws.set j (.lst true xs'))) (.ref a) (O1 ++ []) := by
                  rw [List.append_nil]
                  exact ⟨a, vs1, rfl, t2'.mono.sqT g3, d5 us' xs' rvs⟩
                obtain ⟨Os3, s3, t3⟩ := s2.updO g2 h1 c2 ro (by rw [List.append_nil]; exact s2.nd) (fun _ z => nomatch z)
                rw [List.append_nil] at t3
                refine q v G2 _ Os3 [] s3 (RO.ofF rv) (OwnK.nil s3) ?_
                show Step G H Os2.flatten G2 _ (Os3.flatten ++ [])
                rw [List.append_nil]
                have u1 : Step G H Os2.flatten G1 H1 Os2.flatten := (Stp.gen t1).less fun x hx => List.mem_append_left _ hx
                have u2 : Step G1 H1 Os2.flatten G2 H2 Os2.flatten := (Stp.gen t2).less fun x hx => List.mem_append_left _ hx
                exact (u1.trans u2).trans t3
      | _ => simp only [ei] at q
theorem me_appendT {Z : Zt} {o ix e : Expr} {i : Nat} {mi : Sm W} {m : Sm (List W)} {k : Bool} {apos cpos spos : Pos} (ho : PE Z.X o (tVar i)) (hi : ME Z ix mi true k) (ha : MA Z [e] m true)
    (hpx : PlainIx ix := by exact fun _ _ => rfl)
    (hbase : attributeBase (.Subscript o ix spos) "append" Z.X.env (eval (.Subscript o ix spos) Z.X.env) = eval (.Subscript o ix spos) Z.X.env := by rfl)
    (hfew : ((backTo cpos (starEach [e] Z.X.env)).all (fun x => !x.1) && (backToKw cpos (keywordEach [] Z.X.env)).all (fun x => x.1.isSome)
      && decide ([e].length + ([] : List Keyword).length + (if ([] : List Keyword).isEmpty then 0 else 1) < 30)) = true := by rfl)
    (hline : (apos.endLine == cpos.line) = true := by rfl) (hs : starEach [e] Z.X.env = (false, eval e Z.X.env) :: starEach [] Z.X.env := by rfl) :
    ME Z (.Call (.Attribute (.Subscript o ix spos) "append" apos) [e] [] cpos) (mMutT i fAppend mi m) false true := by
  obtain ⟨r, h1, h2⟩ := (mut_append : MutS Z "list.append" fAppend)
  exact pe_imp (pe_bm PySem.F.plainAttrs_list PySem.F.slot_list_append PySem.F.type_list_append h1 (pe_ix ix_tup ho hi hpx) ha hbase hfew hline hs rfl) fun σ H Q q => tx_mutT h2 q
/-! ### xs.append(e), e may change other slots -/
def mApp (i : Nat) (m : Sm W) : Sm W := fun env => match env[i]? with
  | some (.lst true _) => match m env with
    | .ok w env1 => if w.frz = true then match env1[i]? with
      | some (.lst true xs) => if xs.length < sizeLine then .ok .non (env1.set i (.lst true (xs ++ [w]))) else .bad
      | _ => .bad else .bad
    | .ex c env1 => .ex c env1
    | .bad => .bad
  | _ => .bad
theorem r_app {env : List W} (i : Nat) (m : Sm W) : mApp i m env = match env[i]? with
  | some (.lst true _) => (match m env with
    | .ok w env1 => if w.frz = true then (match env1[i]? with
      | some (.lst true xs) => if xs.length < sizeLine then .ok .non (env1.set i (.lst true (xs ++ [w]))) else .bad
      | _ => .bad) else .bad
    | .ex c env1 => .ex c env1
    | .bad => .bad)
  | _ => .bad := rfl
theorem tx_app {Z : Zt} {i : Nat} {m : Sm W} {p k : Bool} {σ : St} {H : Hp} {Q : VK} (q : TX Z.D Z.W false true (mApp i m) σ H Q) :
    tVar i σ H fun x H1 => tyV Z.X.K "list" x H1 ∧ TX Z.D Z.W p k m σ H1 fun y H2 => rAppend x [y] H2 Q := by
  obtain ⟨env, G, Os, s, q⟩ := q
  unfold mApp at q
  cases e : env[i]? with
  | none => rw [e] at q; exact q.elim
  | some w0 =>
    have key : ∃ xs0, w0 = .lst true xs0 := by
      rw [e] at q
      cases w0 <;> first
        | exact q.elim
        | (rename_i b _; cases b <;> first | exact q.elim | exact ⟨_, rfl⟩)
    obtain ⟨xs0, rfl⟩ := key
    rw [e] at q
    obtain ⟨a, vs0, h1, h2, h3, h4⟩ := s.sl.atOwn e
    refine ⟨.ref a, h1, .inl ⟨rfl, _, SqL.of h3⟩, env, G, Os, s, ?_⟩
    cases em : m env with
    | bad => simp only [em] at q
    | ex c env1 =>
      simp only [em] at q
      exact fun G' H' Os' s' t => q G' H' Os' s' t.gen
    | ok w env1 =>
      simp only [em] at q
      intro v G1 H1 Os1 Ow s1 r1 o1 t1
      by_cases hf : w.frz = true
      · simp only [if_pos hf] at q
        obtain ⟨rfl, f1⟩ := r1.toF hf
        cases e1 : env1[i]? with
        | none => simp only [e1] at q
        | some w1 =>
          have key1 : ∃ xs1, w1 = .lst true xs1 := by
            cases w1 <;> first
              | (exfalso; simp only [e1] at q; done)
              | (rename_i b _; cases b <;> first | (exfalso; simp only [e1] at q; done) | exact ⟨_, rfl⟩)
          obtain ⟨xs1, rfl⟩ := key1
          simp only [e1] at q
          obtain ⟨a', vs1, g1, g2, g3, g4⟩ := s1.sl.atOwn e1
          rw [h1] at g1
          cases g1
          by_cases hl : xs1.length < sizeLine
          · simp only [if_pos hl] at q
            refine ⟨a, vs1, v, rfl, rfl, g3, by rw [← g4.len]; exact hl, ?_⟩
            obtain ⟨s2, t2⟩ := s1.mut h1 g2 g3 (RFs.append g4 (show RFs Z.D G1 [w] [v] from ⟨v, [], rfl, f1, rfl⟩))
            refine q .non G1 _ Os1 [] s2 ⟨rfl, rfl⟩ (OwnK.nil s2) ?_
            show Step G H Os.flatten G1 _ (Os1.flatten ++ [])
            rw [List.append_nil]
            exact t1.st.trans t2
          · simp only [if_neg hl] at q
      · simp only [if_neg hf] at q
theorem me_app {Z : Zt} {o e : Expr} {i : Nat} {m : Sm W} {p k : Bool} {apos cpos : Pos} (ho : PE Z.X o (tVar i)) (ha : ME Z e m p k) (hbase : attributeBase o "append" Z.X.env (eval o Z.X.env) = eval o Z.X.env := by rfl)
    (hfew : ((backTo cpos (starEach [e] Z.X.env)).all (fun x => !x.1) && (backToKw cpos (keywordEach [] Z.X.env)).all (fun x => x.1.isSome)
      && decide ([e].length + ([] : List Keyword).length + (if ([] : List Keyword).isEmpty then 0 else 1) < 30)) = true := by rfl)
    (hline : (apos.endLine == cpos.line) = true := by rfl) (hs : starEach [e] Z.X.env = (false, eval e Z.X.env) :: starEach [] Z.X.env := by rfl) :
    ME Z (.Call (.Attribute o "append" apos) [e] [] cpos) (mApp i m) false true :=
  pe_imp (pe_bm PySem.F.plainAttrs_list PySem.F.slot_list_append PySem.F.type_list_append mt_append ho (pa_cons ha pa_nil hs) hbase hfew hline hs rfl) fun σ H Q q => tx_app q
/-! ### a list of lists, the inner ones frozen -/
def gFzC (i : Nat) : Sm Unit := fun env => match env[i]? with
  | some (.nst ws) => if fzOks ws = true then .ok () (env.set i (.lst true (fzDs ws))) else .bad
  | some (.lst true _) => .ok () env
  | _ => .bad
theorem r_gfzC {env : List W} (i : Nat) : gFzC i env = match env[i]? with
  | some (.nst ws) => if fzOks ws = true then .ok () (env.set i (.lst true (fzDs ws))) else .bad
  | some (.lst true _) => .ok () env
  | _ => .bad := rfl
theorem StOk.fzC {D : Dn} {G H : Hp} {env : List W} {σ : St} {Os : List (List Addr)} {i : Nat} {ws : List W} (s : StOk D G H env σ Os) (e : env[i]? = some (.nst ws)) (hf : fzOks ws = true) :
    ∃ G' Os', StOk D G' H (env.set i (.lst true (fzDs ws))) σ Os' ∧ Step G H Os.flatten G' H Os'.flatten := by
  obtain ⟨a, vs, O, h1, h2, h3, h4⟩ := s.sl.atNst e
  have inO : ∀ b ∈ a :: O, b ∈ Os.flatten := fun b hb => flat_mem h2 hb
  have rf := ROs.deep (S := O) ws vs O hf h4 fun b hb => ⟨hb, s.gn b (inO b (List.mem_cons_of_mem _ hb))⟩
  have ndc := nd_at s.nd h2
  have naO : a ∉ O := (List.nodup_cons.mp ndc).1
  have i0 : i < Os.length := (List.getElem?_eq_some_iff.mp h2).1
  have e0 : (Os.set i [])[i]? = some [] := by rw [List.getElem?_set_self i0]
  have p2 := flat_set (O' := [a]) e0
  rw [List.append_nil, List.set_set] at p2
  have mem2 : ∀ b ∈ (Os.set i [a]).flatten, b ∈ (Os.set i []).flatten ∨ b = a := fun b hb => by
    rcases List.mem_append.mp (p2.mem_iff.mp hb) with z | z
    · exact .inl z
    · exact .inr (List.mem_singleton.mp z)
  have sub2 : ∀ b ∈ (Os.set i [a]).flatten, b ∈ Os.flatten := fun b hb => by
    rcases mem2 b hb with z | z
    · exact flat_sub b z
    · rw [z]; exact inO a List.mem_cons_self
  have out : ∀ b ∈ (Os.set i [a]).flatten, b ∉ O := fun b hb hO => by
    rcases mem2 b hb with z | z
    · exact onceO s.nd h2 (List.mem_cons_of_mem _ hO) z
    · rw [z] at hO; exact naO hO
  refine ⟨lentH G H O, Os.set i [a], ⟨?_, sub_lentS s.sub, fun b hb => lent_none (out b hb) (s.gn b (sub2 b hb)), ?_⟩, lent_mono, fun b x hb _ => hb, fun b x hb hn _ g => lent_none (fun z => hn (inO b (List.mem_cons_of_mem _ z))) g, fun b hb => .inl (sub2 b hb)⟩
  · have s0 : Sl D (lentH G H O) H env σ Os := s.sl.mono lent_mono fun _ _ _ h => h
    have z := Sl.set (D := D) (G := lentH G H O) (H := H) (w := .lst true (fzDs ws)) (s := some (.ref a)) (O := [a]) (.inl ⟨.ref a, rfl, a, vs, rfl, rfl, h3, rf⟩) i s0
    rwa [set_self h1] at z
  · rw [p2.nodup_iff]
    refine List.nodup_append.mpr ⟨flat_nd s.nd, by simp, fun b hb c hc ee => ?_⟩
    rw [List.mem_singleton.mp hc] at ee
    rw [ee] at hb
    exact onceO s.nd h2 List.mem_cons_self hb
theorem mss_fzC {Z : Zt} {st : List Stmt} {m : Sm Fl} (i : Nat) (h : MSs Z st m) : MSs Z st (sGo (gFzC i) m) := pss_imp h fun E σ H q => by
  obtain ⟨env, G, Os, s, q⟩ := q
  unfold sGo gFzC Sm.bind at q
  cases e : env[i]? with
  | none => simp only [e] at q; exact q.elim
  | some w =>
    simp only [e] at q
    have other : (∃ ws, w = .nst ws) ∨ (∃ xs, w = .lst true xs) := by
      cases w <;> first
        | exact q.elim
        | exact .inl ⟨_, rfl⟩
        | (rename_i b _; cases b <;> first | exact q.elim | exact .inr ⟨_, rfl⟩)
    rcases other with ⟨ws, rfl⟩ | ⟨xs, rfl⟩
    · by_cases hf : fzOks ws = true
      · simp only [if_pos hf] at q
        obtain ⟨G', Os', s', t⟩ := s.fzC e hf
        exact TSx.on s' t (IoS.refl _) q
      · simp only [if_neg hf] at q
        exact q.elim
    · exact TSx.on s (Step.refl _ _ _) (IoS.refl _) q
/-! ### a call, its one argument new and owned -/
def mCallO (g : Fn) (m : Sm W) : Sm W := fun env => match m env with
  | .ok w1 env1 => match g [w1] with
    | .ok w _ => .ok w env1
    | _ => .bad
  | .ex c env1 => .ex c env1
  | .bad => .bad
theorem r_callO {env : List W} (g : Fn) (m : Sm W) : mCallO g m env = match m env with
  | .ok w1 env1 => (match g [w1] with
    | .ok w _ => .ok w env1
    | _ => .bad)
  | .ex c env1 => .ex c env1
  | .bad => .bad := rfl
theorem me_callO {Z : Zt} {x : Str} {k : Nat} {g : Fn} {e : Expr} {p : Bool} {p1 p2 : Pos} {m : Sm W} (F : FnZ Z x 1 k g) (hr : Room k Z.X.A) (tk : Takes Z.X Z.W) (ha : ME Z e m p true) (hg : Gl Z.X x) (hdb : (x == ("__debug__" : Str)) = false := by decide)
    (he : starEach [e] Z.X.env = (false, eval e Z.X.env) :: starEach [] Z.X.env := by rfl) (hpl : (backTo p2 (starEach [] Z.X.env)).any (·.1) = false := by rfl)
    : ME Z (.Call (.Name x p1) [e] [] p2) (mCallO g m) p true := by
  obtain ⟨f, fd, ps, F, hm, hk, hb⟩ := F
  refine pe_imp (pe_callS F hr hg hm hk hb (fun σ => passAt tk σ) (pa_cons ha pa_nil he) hdb he hpl) fun σ H Q q => ?_
  obtain ⟨env, G, Os, s, q⟩ := q
  refine ⟨env, G, Os, s, ?_⟩
  unfold mCallO at q
  cases e1 : m env with
  | bad => rw [e1] at q; exact q
  | ex c env1 => rw [e1] at q; exact q
  | ok w1 env1 =>
    rw [e1] at q
    intro v1 G1 H1 Os1 O1 s1 r1 o1 t1
    obtain ⟨nd1, nd2, nd3⟩ := List.nodup_append.mp o1.1
    refine ⟨rfl, [w1], G1, O1, s1.sub, ⟨v1, [], O1, [], rfl, (List.append_nil _).symm, r1, rfl, rfl⟩, nd2, o1.2, ?_⟩
    cases e2 : g [w1] with
    | bad => simp only [e2] at q
    | ex c ws' => simp only [e2] at q
    | ok w ws' =>
      simp only [e2] at q
      intro v G' H' O' Ow sub _ r nd gn st
      have st' := st.less (O2 := Ow) fun a ha => List.mem_append_right _ ha
      have nd' : Ow.Nodup := (List.nodup_append.mp nd).2.1
      have out : ∀ a ∈ Os1.flatten, a ∉ O1 := fun a ha z => nd3 a ha a z rfl
      have s2 : StOk Z.D G' H' env1 σ Os1 := ⟨s1.sl.mono st'.mono fun a ha o h => st'.keep a o h (out a ha), sub, fun a ha => by
        obtain ⟨o, ho, nt⟩ := s1.thn a ha
        exact st'.gnew a o ho (out a ha) nt (s1.gn a ha), s1.nd⟩
      refine q v G' H' Os1 Ow s2 r ⟨List.nodup_append.mpr ⟨s1.nd, nd', fun a ha b hb ee => ?_⟩, fun a ha => gn a (List.mem_append_right _ ha)⟩ (t1.then st')
      subst ee
      obtain ⟨o, ho⟩ := s1.there a ha
      rcases st'.new a hb with z | z
      · exact out a ha z
      · rw [ho] at z; cases z
/-! ### a, b = a pair, the first one owned -/
def sAsgN (i j : Nat) (m : Sm W) : Sm Fl := fun env => match m env with
  | .ok (.ntp [w1, w2]) env1 => match env1[i]?, env1[j]? with
    | some _, some _ => if w2.frz = true then .ok .nx ((env1.set i w1).set j w2) else .bad
    | _, _ => .bad
  | .ex c env1 => .ex c env1
  | _ => .bad
theorem r_asgN {env : List W} (i j : Nat) (m : Sm W) : sAsgN i j m env = match m env with
  | .ok (.ntp [w1, w2]) env1 => (match env1[i]?, env1[j]? with
    | some _, some _ => if w2.frz = true then .ok .nx ((env1.set i w1).set j w2) else .bad
    | _, _ => .bad)
  | .ex c env1 => .ex c env1
  | _ => .bad := rfl
theorem ms_asgN {Z : Zt} {e : Expr} {i j : Nat} {x y : Str} {m : Sm W} {p : Bool} {pos q1 q2 q3 : Pos} {k : Nat} (hc : Z.X.calm = true) (hN : Z.X.N.Nodup) (he : ME Z e m p true) (hi : Z.X.N[i]? = some x := by rfl) (hj : Z.X.N[j]? = some y := by rfl)
    (hx : Loc Z.X.env.scope x := by first | exact Or.inl rfl | exact Or.inr rfl) (hy : Loc Z.X.env.scope y := by first | exact Or.inl rfl | exact Or.inr rfl) (hio : Z.io i = false := by rfl) (hio2 : Z.io j = false := by rfl)
    (hf : Z.X.fn x = true ∨ Z.X.env.scope.names.lookup x = some .local := by first | exact .inl rfl | exact .inr rfl | assumption) (hf2 : Z.X.fn y = true ∨ Z.X.env.scope.names.lookup y = some .local := by first | exact .inl rfl | exact .inr rfl | assumption)
    (hs1 : (assignEach [.Name x q1, .Name y q2] Z.X.env).map (·.2) = assign (.Name x q1) Z.X.env :: (assignEach [.Name y q2] Z.X.env).map (·.2) := by rfl) (hs2 : (assignEach [.Name y q2] Z.X.env).map (·.2) = assign (.Name y q2) Z.X.env :: (assignEach [] Z.X.env).map (·.2) := by rfl)
    (hn : (assignEach [.Name x q1, .Name y q2] Z.X.env).length = 2 := by rfl) (hst : (assignEach [.Name x q1, .Name y q2] Z.X.env).findIdx? (·.1) = none := by rfl)
    (hs : swapsWithSole [.Tuple [.Name x q1, .Name y q2] k q3] e pos.line Z.X.env = pure false := by rfl) (hw : swappedStores [.Tuple [.Name x q1, .Name y q2] k q3] e Z.X.env = pure none := by rfl)
    (h1 : (assignEach [.Tuple [.Name x q1, .Name y q2] k q3] Z.X.env).map (·.2) = [assign (.Tuple [.Name x q1, .Name y q2] k q3) Z.X.env] := by rfl) :
    MS Z (.Assign [.Tuple [.Name x q1, .Name y q2] k q3] e pos) (sAsgN i j m) :=
  ps_imp (ps_asg he (pg_tup hc (pgs_cons (pg_name hN hi hx hf) (pgs_cons (pg_name hN hj hy hf2) pgs_nil hs2) hs1) hn hst) hs hw h1) fun E σ H q => by
  obtain ⟨env, G, Os, s, q⟩ := q
  refine ⟨env, G, Os, s, ?_⟩
  unfold sAsgN at q
  cases e : m env with
  | bad => rw [e] at q; exact q.elim
  | ex c env1 =>
    rw [e] at q
    exact fun G' H' Os' s' t => q σ G' H' Os' s' t.st (IoS.refl _)
  | ok w env1 =>
    rw [e] at q
    intro v G' H' Os' Ow s' r o t
    have key : ∃ w1 w2, w = .ntp [w1, w2] := by
      cases w <;> first
        | exact q.elim
        | skip
      rename_i ws
      match ws, q with
      | [w1, w2], _ => exact ⟨w1, w2, rfl⟩
      | [], q => exact q.elim
      | [_], q => exact q.elim
      | _ :: _ :: _ :: _, q => exact q.elim
    obtain ⟨w1, w2, rfl⟩ := key
    simp only at q
    cases e1 : env1[i]? with
    | none => simp only [e1] at q; exact q.elim
    | some u1 =>
      cases e2 : env1[j]? with
      | none => simp only [e1, e2] at q; exact q.elim
      | some u2 =>
        simp only [e1, e2] at q
        by_cases hf : w2.frz = true
        · simp only [if_pos hf] at q
          obtain ⟨a, vs, rfl, g1, v1, r1, O1, O2, rfl, rfl, g2, v2, r2, O3, O4, rfl, rfl, g3, g4⟩ := r
          obtain ⟨rfl, rfl⟩ := g4
          obtain ⟨rfl, f3⟩ := g3.toF hf
          have eO : O1 ++ ([] ++ []) = O1 := by simp
          rw [eO] at o t
          have li : i < σ.length := by rw [← s'.sl.len.1]; exact (List.getElem?_eq_some_iff.mp e1).1
          obtain ⟨s2, inn⟩ := s'.put i li g2 o
          have s3 := s2.putF j f3
          refine ⟨a, [v1, v2], rfl, s'.sub.sqT g1, rfl, v1, [v2], rfl, v2, [], rfl, rfl, ?_⟩
          exact q _ _ _ _ s3 (t.gen.less fun b hb => inn b (flat_sub b hb)) ((IoS.set hio).trans (IoS.set hio2))
        · simp only [if_neg hf] at q
          exact q.elim
/-! ### a list's own thing taken out, the list let go -/
theorem ROs.getO {D : Dn} {G H : Hp} : ∀ {ws : List W} {vs : List V} {O : List Addr} {j : Nat} {w : W}, ROs D G H ws vs O → O.Nodup → ws[j]? = some w → ∃ v O', vs[j]? = some v ∧ RO D G H w v O' ∧ O'.Nodup ∧ ∀ a ∈ O', a ∈ O
  | [], _, _, _, _, _, _, e => by simp at e
  | x :: ws, _, _, 0, w, h, nd, e => by
    obtain ⟨v, r, O1, O2, rfl, rfl, h1, h2⟩ := h
    have ew : x = w := by simpa using e
    subst ew
    exact ⟨v, O1, rfl, h1, (List.nodup_append.mp nd).1, fun a ha => List.mem_append_left _ ha⟩
  | x :: ws, _, _, j + 1, w, h, nd, e => by
    obtain ⟨v, r, O1, O2, rfl, rfl, h1, h2⟩ := h
    obtain ⟨u, O', g1, g2, g3, g4⟩ := ROs.getO h2 (List.nodup_append.mp nd).2.1 (j := j) (w := w) (by simpa using e)
    exact ⟨u, O', by simpa using g1, g2, g3, fun a ha => List.mem_append_right _ (g4 a ha)⟩
def mTakeK (i : Nat) (mi : Sm W) : Sm W := fun env => match env[i]? with
  | some (.nst ws) => match mi env with
    | .ok (.int n) _ => match ixN ws.length n with
      | some j => match ws[j]? with
        | some w => .ok w (env.set i .dead)
        | none => .bad
      | none => .bad
    | _ => .bad
  | _ => .bad
theorem r_takeK {env : List W} (i : Nat) (mi : Sm W) : mTakeK i mi env = match env[i]? with
  | some (.nst ws) => (match mi env with
    | .ok (.int n) _ => (match ixN ws.length n with
      | some j => (match ws[j]? with
        | some w => .ok w (env.set i .dead)
        | none => .bad)
      | none => .bad)
    | _ => .bad)
  | _ => .bad := rfl
theorem me_takeK {Z : Zt} {o ix : Expr} {i : Nat} {mi : Sm W} {k : Bool} {spos : Pos} (ho : PE Z.X o (tVar i)) (hi : ME Z ix mi true k) (hpx : PlainIx ix := by exact fun _ _ => rfl) : ME Z (.Subscript o ix spos) (mTakeK i mi) false true :=
  pe_imp (pe_ix ix_list ho hi hpx) fun σ H Q q => by
  obtain ⟨env, G, Os, s, q⟩ := q
  unfold mTakeK at q
  cases e : env[i]? with
  | none => rw [e] at q; exact q.elim
  | some w0 =>
    have key : ∃ xs0, w0 = .nst xs0 := by
      rw [e] at q
      cases w0 <;> first
        | exact q.elim
        | exact ⟨_, rfl⟩
    obtain ⟨ws, rfl⟩ := key
    rw [e] at q
    obtain ⟨a, vs0, O0, h1, h2, h3, h4⟩ := s.sl.atNst e
    refine ⟨.ref a, h1, env, G, Os, s, ?_⟩
    cases ei : mi env with
    | bad => simp only [ei] at q
    | ex c env1 => simp only [ei] at q
    | ok wi env1 =>
      intro iv G1 H1 Os1 Oi s1 ri oi t1
      obtain ⟨rfl, rfl, t1'⟩ := id t1
      cases wi with
      | int n =>
        simp only [ei] at q
        cases ej : ixN ws.length n with
        | none => simp only [ej] at q
        | some j =>
          simp only [ej] at q
          cases ew : ws[j]? with
          | none => simp only [ew] at q
          | some w =>
            simp only [ew] at q
            obtain ⟨_, rfl⟩ := ri
            obtain ⟨a', vs1, O1, g1, g2, g3, g4⟩ := s1.sl.atNst e
            rw [h1] at g1
            cases g1
            have nd1 : O1.Nodup := (List.nodup_cons.mp (nd_at s1.nd g2)).2
            obtain ⟨v, O', c1, c2, c3, c4⟩ := g4.getO nd1 ew
            have ha : atI vs1 n = some v := by
              unfold atI
              rw [← g4.len, ej]
              exact c1
            refine ⟨a, vs1, n, v, rfl, rfl, SqL.of g3, ha, ?_⟩
            have s2 : StOk Z.D G1 H1 (env1.set i .dead) σ (Os1.set i []) := ⟨s1.sl.kill1 i, s1.sub, fun b hb => s1.gn b (flat_sub b hb), flat_nd s1.nd⟩
            refine q v G1 H1 (Os1.set i []) O' s2 c2 ⟨List.nodup_append.mpr ⟨flat_nd s1.nd, c3, fun b hb d hd ee => ?_⟩, fun b hb => s1.gn b (flat_mem g2 (List.mem_cons_of_mem _ (c4 b hb)))⟩ ?_
            · subst ee
              exact onceO s1.nd g2 (List.mem_cons_of_mem _ (c4 b hd)) hb
            · show Step G H Os1.flatten G1 H1 ((Os1.set i []).flatten ++ O')
              exact t1.gen.less fun b hb => by
                rcases List.mem_append.mp hb with z | z
                · exact List.mem_append_left _ (flat_sub b z)
                · exact List.mem_append_left _ (flat_mem g2 (List.mem_cons_of_mem _ (c4 b z)))
      | _ => simp only [ei] at q
theorem pick_nst (i : List W) (env : List W) : pickV (some (.nst i)) env = .ok (.nst i) env := rfl
theorem pick_ntp (i : List W) (env : List W) : pickV (some (.ntp i)) env = .ok (.ntp i) env := rfl
end Ev

namespace Ev
open PySem PySem.Spec L2
/-! ### a comprehension of new things that stay owned -/
def mLcN (f : Tg) (tt : Sm Bool) (te : Sm W) (vs : List Nat) : List W → List W → Sm (List W)
  | [], acc, env => .ok acc (killE vs env)
  | x :: xs, acc, env => match f x (killE vs env) with
    | none => .bad
    | some env1 => match tt env1 with
      | .ok false env2 => mLcN f tt te vs xs acc env2
      | .ok true env2 => match te env2 with
        | .ok y env3 => if acc.length < sizeLine then mLcN f tt te vs xs (acc ++ [y]) env3 else .bad
        | _ => .bad
      | _ => .bad
def mCompN (f : Tg) (tt : Sm Bool) (te : Sm W) (vs : List Nat) (mi : Sm (List W)) : Sm W := Sm.bind mi fun ws env => match mLcN f tt te vs ws [] env with
  | .ok ys env' => .ok (.nst ys) env
  | _ => .bad
structure LcN (D : Dn) (vs : List Nat) (G1 H1 : Hp) (d : Addr) (σ : St) (acc : List W) (env : List W) (H : Hp) (G : Hp) (Os : List (List Addr)) (σ2 : St) (Oa : List Addr) : Prop where
  st : StOk D G H env σ2 Os
  len : σ2.length = σ.length
  out : ∀ i, i ∉ vs → σ2[i]? = σ[i]?
  dg : ∀ a ∈ d :: Oa, G a = none
  dn : ∀ a ∈ d :: Oa, a ∉ Os.flatten
  nd : (d :: Oa).Nodup
  dl : ∃ va, H d = some (.lst va) ∧ ROs D G H acc va Oa
  step : Step G1 H1 [] G H (d :: Oa)
theorem LcN.there {D : Dn} {vs : List Nat} {G1 H1 : Hp} {d : Addr} {σ : St} {acc env : List W} {H G : Hp} {Os : List (List Addr)} {σ2 : St} {Oa : List Addr} (I : LcN D vs G1 H1 d σ acc env H G Os σ2 Oa) : ∀ a ∈ d :: Oa, ∃ o, H a = some o ∧ NT o := fun a ha => by
  obtain ⟨va, hd, ra⟩ := I.dl
  rcases List.mem_cons.mp ha with e | h
  · rw [e]; exact ⟨_, hd, fun _ z => nomatch z⟩
  · exact ROs.thn acc va Oa ra a h
theorem LcN.next {D : Dn} {vs : List Nat} {G1 H1 : Hp} {d : Addr} {σ : St} {acc env : List W} {H G : Hp} {Os : List (List Addr)} {σ2 : St} {Oa : List Addr} {env' : List W} {G' H' : Hp} {Os' : List (List Addr)}
    (I : LcN D vs G1 H1 d σ acc env H G Os σ2 Oa) (s : StOk D G' H' env' σ2 Os') (t : Stp true env G H Os env' G' H' Os' []) : LcN D vs G1 H1 d σ acc env' H' G' Os' σ2 Oa := by
  obtain ⟨va, hd, ra⟩ := I.dl
  obtain ⟨rfl, rfl, t⟩ := t
  refine ⟨s, I.len, I.out, fun a ha => ?_, I.dn, I.nd, ⟨va, t.keep d _ hd (fun z => nomatch z), ROs.mono t.mono _ _ _ (fun a _ o h => t.keep a o h (fun z => nomatch z)) ra⟩, I.step.trans t.pureO⟩
  obtain ⟨o, ho, nt⟩ := I.there a ha
  exact t.gnew a o ho (fun z => nomatch z) nt (I.dg a ha)
theorem tx_lcN {D : Dn} {Wx : WX} {f : Tg} {tt : Sm Bool} {te : Sm W} {mi : Sm (List W)} {vs : List Nat} {p : Bool} {σ : St} {H : Hp} {Q : VK}
    (q : TX D Wx p true (mCompN f tt te vs mi) σ H Q) : tLc (TIx D Wx p mi) (TGx D (ioB vs) f) (TT' D W0 true tt) (TX D W0 true true te) vs σ H Q := by
  obtain ⟨env, G, Os, s, q⟩ := q
  refine ⟨env, G, Os, s, ?_⟩
  unfold mCompN Sm.bind at q
  cases e : mi env with
  | bad => rw [e] at q; exact q
  | ex c env1 =>
    rw [e] at q
    exact q
  | ok ws env1 =>
    rw [e] at q
    intro J G1 H1 Os1 s1 t1 wk d hd
    have gd1 : G1 d = none := sub_none s1.sub hd
    have dn1 : d ∉ Os1.flatten := fun z => s1.sl.there d z hd
    obtain ⟨ys, envF, eF⟩ : ∃ ys env', mLcN f tt te vs ws [] env1 = .ok ys env' := by
      cases eo : mLcN f tt te vs ws [] env1 with
      | ok ys env' => exact ⟨ys, env', rfl⟩
      | ex c env' => simp only [eo] at q
      | bad => simp only [eo] at q
    simp only [eF] at q
    refine ⟨fun i m H' => m = ws.length - i ∧ i ≤ ws.length ∧ ∃ env' G' Os' σ' acc Oa, LcN D vs G1 H1 d σ acc env' H' G' Os' σ' Oa ∧ Sub G1 G' ∧ mLcN f tt te vs (ws.drop i) acc env' = .ok ys envF, ⟨ws.length, rfl, Nat.zero_le _, env1, G1, Os1, σ, [], [], ?_, Sub.refl _, eF⟩, ?_⟩
    · exact ⟨s1.updD gd1 dn1, rfl, fun _ _ => rfl, fun a ha => by rw [List.mem_singleton.mp ha]; exact gd1, fun a ha => by rw [List.mem_singleton.mp ha]; exact dn1, by simp, ⟨[], upd_same, rfl, rfl⟩, step_own hd⟩
    rintro i m H2 ⟨rfl, hi, env2, G2, Os2, σ2, acc, Oa, I, sub2, e2⟩
    obtain ⟨w1, w2⟩ := wk i G2 H2 sub2 I.st.sub
    by_cases hl : i < ws.length
    · have ei : ws[i]? = some ws[i] := List.getElem?_eq_getElem hl
      obtain ⟨go, yl⟩ := w1 _ ei
      rw [List.drop_eq_getElem_cons hl] at e2
      refine .inr ⟨go, fun H' => ∃ env' G' Os' σ' acc Oa, LcN D vs G1 H1 d σ acc env' H' G' Os' σ' Oa ∧ Sub G1 G' ∧ mLcN f tt te vs (ws.drop (i + 1)) acc env' = .ok ys envF, fun H' h => ⟨ws.length - (i + 1), by omega, rfl, hl, h⟩, fun v H3 y => ?_⟩
      obtain ⟨G3, t3, sub3, r3⟩ := yl v H3 y
      unfold mLcN at e2
      cases ef : f ws[i] (killE vs env2) with
      | none => simp only [ef] at e2; cases e2
      | some env3 =>
        simp only [ef] at e2
        have I3 : LcN D vs G1 H1 d σ acc env2 H3 G3 Os2 σ2 Oa := I.next (I.st.step t3 sub3) ⟨rfl, rfl, t3⟩
        have s3 : StOk D G3 H3 (killE vs env2) (wipe σ vs) (killO vs Os2) := I3.st.re (by rw [wipe_length]; exact I.len.symm) fun j hj => by rw [wipe_at hj, I.out j hj]
        refine ⟨killE vs env2, G3, killO vs Os2, ws[i], env3, s3, r3, ef, fun σ4 Os4 s4 hsub io4 len4 => ?_⟩
        rw [wipe_length] at len4
        have out4 : ∀ j, j ∉ vs → σ4[j]? = σ[j]? := fun j hj => by
          have hio : ioB vs j = true := by
            show (!vs.contains j) = true
            rw [Bool.not_eq_true', List.contains_eq_mem, decide_eq_false_iff_not]
            exact hj
          rw [io4 j hio, wipe_at hj]
        have hsub2 : ∀ a ∈ Os4.flatten, a ∈ Os2.flatten := fun a ha => killO_sub a (hsub a ha)
        have I4 : LcN D vs G1 H1 d σ acc env3 H3 G3 Os4 σ4 Oa := ⟨s4, len4, out4, I3.dg, fun a ha z => I3.dn a ha (hsub2 a z), I3.nd, I3.dl, I3.step⟩
        refine ⟨wipe_eq len4 out4, env3, G3, Os4, s4, ?_⟩
        cases et : tt env3 with
        | bad => simp only [et] at e2; cases e2
        | ex c env4 => simp only [et] at e2; cases e2
        | ok b env4 =>
          intro G5 H5 Os5 s5 t5
          have I5 := I4.next s5 t5
          have sub5 : Sub G1 G5 := (sub2.trans t3.mono).trans t5.gen.mono
          cases b with
          | false =>
            rw [if_neg Bool.false_ne_true]
            simp only [et] at e2
            exact ⟨env4, G5, Os5, σ4, acc, Oa, I5, sub5, e2⟩
          | true =>
            rw [if_pos rfl]
            simp only [et] at e2
            refine ⟨env4, G5, Os5, s5, ?_⟩
            cases ee : te env4 with
            | bad => simp only [ee] at e2; cases e2
            | ex c env6 => simp only [ee] at e2; cases e2
            | ok y env6 =>
              simp only [ee] at e2
              intro v6 G6 H6 Os6 Ow s6 r6 o6 t6
              by_cases hy : acc.length < sizeLine
              · rw [if_pos hy] at e2
                have t6' : Stp true env4 G5 H5 Os5 env6 G6 H6 Os6 [] := t6.less fun _ z => nomatch z
                have I6 := I5.next s6 t6'
                obtain ⟨va6, hd6, rva6⟩ := I6.dl
                obtain ⟨rfl, rfl, t6s⟩ := id t6
                have newW : ∀ a ∈ Ow, H5 a = none := fun a ha => (t6s.new a ha).elim (fun z => nomatch z) id
                have apart : ∀ a ∈ Ow, a ∉ d :: Oa := fun a ha z => by
                  obtain ⟨o, ho, _⟩ := I5.there a z
                  rw [newW a ha] at ho
                  cases ho
                have ndw := List.nodup_append.mp o6.1
                have ne : ∀ a ∈ Oa ++ Ow, a ≠ d := fun a ha e => by
                  rcases List.mem_append.mp ha with z | z
                  · exact (List.nodup_cons.mp I6.nd).1 (by rw [← e]; exact z)
                  · exact apart a z (by rw [e]; exact List.mem_cons_self)
                have nd6 : (d :: (Oa ++ Ow)).Nodup := List.nodup_cons.mpr ⟨fun z => ne d z rfl, List.nodup_append.mpr ⟨(List.nodup_cons.mp I6.nd).2, ndw.2.1, fun a ha b hb ee => apart b hb (List.mem_cons_of_mem _ (by rw [← ee]; exact ha))⟩⟩
                refine ⟨va6, hd6, by rw [← rva6.len]; exact hy, env6, G6, Os6, σ4, acc ++ [y], Oa ++ Ow, ?_, sub5.trans t6s.mono, e2⟩
                refine ⟨s6.updD (I6.dg d List.mem_cons_self) (I6.dn d List.mem_cons_self), len4, out4, fun a ha => ?_, fun a ha => ?_, nd6, ⟨va6 ++ [v6], upd_same, ?_⟩, ?_⟩
                · rcases List.mem_cons.mp ha with e | z
                  · rw [e]; exact I6.dg d List.mem_cons_self
                  · rcases List.mem_append.mp z with z | z
                    · exact I6.dg a (List.mem_cons_of_mem _ z)
                    · exact o6.2 a z
                · rcases List.mem_cons.mp ha with e | z
                  · rw [e]; exact I6.dn d List.mem_cons_self
                  · rcases List.mem_append.mp z with z | z
                    · exact I6.dn a (List.mem_cons_of_mem _ z)
                    · exact fun y => ndw.2.2 a y a z rfl
                · refine ROs.append (ROs.mono (Sub.refl _) _ _ _ (fun a ha o h => by rw [upd_ne (ne a (List.mem_append_left _ ha))]; exact h) rva6) ?_
                  exact ⟨v6, [], Ow, [], rfl, (List.append_nil _).symm, RO.mono (Sub.refl _) _ _ _ (fun a ha o h => by rw [upd_ne (ne a (List.mem_append_right _ ha))]; exact h) r6, rfl, rfl⟩
                · have st6 : Step G1 H1 [] G6 H6 (d :: (Oa ++ Ow)) := ⟨I6.step.mono, I6.step.keep, I6.step.gnew, fun a ha => by
                    rcases List.mem_cons.mp ha with e | z
                    · rw [e]; exact I6.step.new d List.mem_cons_self
                    · rcases List.mem_append.mp z with z | z
                      · exact I6.step.new a (List.mem_cons_of_mem _ z)
                      · refine .inr ?_
                        cases h1 : H1 a with
                        | none => rfl
                        | some o =>
                          have := I5.step.keep a o h1 (fun z => nomatch z)
                          rw [newW a z] at this
                          cases this⟩
                  exact step_updNew st6 hd
              · rw [if_neg hy] at e2; cases e2
    · have e3 : i = ws.length := by omega
      subst e3
      rw [List.drop_length] at e2
      refine .inl ⟨w2 (Nat.le_refl _), ?_⟩
      cases e2
      obtain ⟨va, hda, rva⟩ := I.dl
      have st : Step G1 H1 [] G2 H2 (d :: Oa) := I.step
      have sF : StOk D G2 H2 env1 σ Os1 := s1.step st I.st.sub
      exact q (.ref d) G2 H2 Os1 (d :: Oa) sF ⟨d, va, Oa, rfl, rfl, hda, rva⟩ ⟨s1.apart st I.nd, I.dg⟩ (t1.ofP (σ := σ) st)
theorem me_lcN {Z : Zt} {elt tg iter : Expr} {ifs : List Expr} {scope : Scope} {own : List (Str × Nat)} {pos : Pos} {f : Tg} {mt : Sm Bool} {me : Sm W} {mi : Sm (List W)} {p : Bool} (hc : Z.X.calm = true) (hN : Z.X.N.Nodup) (hi : MI Z tg iter mi p) (ok : BlkOk Z.X.N Z.X.env.scope scope own)
    (hg : ∀ (s : Shared) (H : Hp) (C : Addr) (cl : List (Str × Addr)) (fp : List Addr), MG (Z.blk s H scope C cl fp (own.map (·.2))) tg f) (ht : ∀ (s : Shared) (H : Hp) (C : Addr) (cl : List (Str × Addr)) (fp : List Addr), MTs (Z.blk s H scope C cl fp (own.map (·.2))) ifs mt true)
    (he : ∀ (s : Shared) (H : Hp) (C : Addr) (cl : List (Str × Addr)) (fp : List Addr), ME (Z.blk s H scope C cl fp (own.map (·.2))) elt me true true) (hs : ∀ x, foldedSetIterable iter Z.X.env x = pure x := by intro _; rfl) :
    ME Z (.ListComp elt [⟨tg, iter, ifs, 0⟩] scope pos) (mCompN f mt me (own.map (·.2)) mi) p true := pe_imp (pe_lc hc hN hi ok hg ht he hs) fun σ H Q q => tx_lcN q
theorem lcN_map {α : Type} {f : Tg} {tt : Sm Bool} {te : Sm W} {vs : List Nat} {env : List W} (e g : α → W) : ∀ {xs : List α} {acc : List W}, acc.length + xs.length ≤ sizeLine →
    (∀ x ∈ xs, ∃ env1, f (e x) (killE vs env) = some env1 ∧ tt env1 = .ok true env1 ∧ ∃ env2, te env1 = .ok (g x) env2 ∧ killE vs env2 = killE vs env) → ∀ env0, killE vs env0 = killE vs env → mLcN f tt te vs (xs.map e) acc env0 = .ok (acc ++ xs.map g) (killE vs env)
  | [], acc, _, _, env0, h0 => by rw [List.map_nil, List.map_nil, List.append_nil, mLcN, h0]
  | x :: xs, acc, hl, h, env0, h0 => by
    obtain ⟨env1, h1, h2, env2, h3, h4⟩ := h x List.mem_cons_self
    rw [List.length_cons] at hl
    rw [List.map_cons, mLcN, h0, h1]
    dsimp only
    rw [h2]
    dsimp only
    rw [h3]
    dsimp only
    rw [if_pos (by omega), lcN_map e g (by rw [List.length_append, List.length_singleton]; omega) (fun y hy => h y (List.mem_cons_of_mem _ hy)) env2 h4, List.append_assoc]
    rfl
theorem compN_map {α : Type} {f : Tg} {tt : Sm Bool} {te : Sm W} {vs : List Nat} {mi : Sm (List W)} {env : List W} (e g : α → W) {xs : List α} (hm : mi env = .ok (xs.map e) env) (hl : xs.length ≤ sizeLine)
    (h : ∀ x ∈ xs, ∃ env1, f (e x) (killE vs env) = some env1 ∧ tt env1 = .ok true env1 ∧ ∃ env2, te env1 = .ok (g x) env2 ∧ killE vs env2 = killE vs env) : mCompN f tt te vs mi env = .ok (.nst (xs.map g)) env := by
  unfold mCompN
  rw [r_bind, hm]
  dsimp only
  rw [lcN_map e g (by simpa using hl) h env rfl]
  rfl
theorem r_mutN {env : List W} (i : Nat) (F : MutF) (mi : Sm W) (m : Sm (List W)) : mMutN i F mi m env = match env[i]? with
  | some (.nst ws) => (match mi env with
    | .ok (.int n) _ => (match ixN ws.length n with
      | some j => (match ws[j]? with
        | some (.lst true xs) => (match m env with
          | .ok us _ => (match F xs us with
            | some (w, xs') => .ok w (env.set i (.nst (ws.set j (.lst true xs'))))
            | none => .bad)
          | .ex c _ => .ex c env
          | .bad => .bad)
        | _ => .bad)
      | none => .bad)
    | .ex c _ => .ex c env
    | _ => .bad)
  | _ => .bad := rfl
end Ev

namespace Ev
open PySem PySem.Spec L2
/-! ### for at, one in enumerate(found): one.append(e) -/
def eaL (i ia io : Nat) (me : Sm W) : Nat → Nat → List W → Option (List W)
  | 0, _, env => some env
  | n + 1, j, env => match me ((env.set ia (.int (j : Nat))).set io .dead) with
    | .ok w _ => if w.frz = true then match ((env.set ia (.int (j : Nat))).set io .dead)[i]? with
      | some (.nst ws) => match ws[j]? with
        | some (.lst true xs) => if xs.length < sizeLine then eaL i ia io me n (j + 1) (killE [ia, io] (((env.set ia (.int (j : Nat))).set io .dead).set i (.nst (ws.set j (.lst true (xs ++ [w])))))) else none
        | _ => none
      | _ => none else none
    | _ => none
def sEnumApp (i ia io : Nat) (me : Sm W) : Sm Fl := fun env => match env[i]? with
  | some (.nst ws) => if io < env.length then match eaL i ia io me ws.length 0 (killE [ia, io] env) with
    | some env' => .ok .nx env'
    | none => .bad else .bad
  | _ => .bad
def oFl : Option (List W) → Out Fl
  | some env => .ok .nx env
  | none => .bad
theorem ms_enumApp {Z : Zt} {x y f : Str} {e : Expr} {i ia io : Nat} {me : Sm W} {k : Bool} {kk : Nat} {qx qy q3 q4 pf p1 p2 pos pos3 apos cpos : Pos} (hp : PassesOwn (model Z.X.prog Z.X.w) Z.X.A Z.X.env Z.X.xe) (hc : Z.X.calm = true) (hN : Z.X.N.Nodup)
    (ho : PE Z.X (.Name f pf) (tVar i)) (hy : PE Z.X (.Name y q4) (tVar io)) (ha : ME Z e me true k) (hm : Z.X.mg "enumerate" = none)
    (hia : i ≠ ia := by decide) (hib : i ≠ io := by decide) (hab : ia ≠ io := by decide) (hioa : Z.io ia = false := by rfl) (hiob : Z.io io = false := by rfl)
    (h1 : Z.X.N[ia]? = some x := by rfl) (h2 : Z.X.N[io]? = some y := by rfl) (hx : Loc Z.X.env.scope x := by first | exact Or.inl rfl | exact Or.inr rfl) (hyl : Loc Z.X.env.scope y := by first | exact Or.inl rfl | exact Or.inr rfl)
    (hf : Z.X.fn x = true ∨ Z.X.env.scope.names.lookup x = some .local := by first | exact .inl rfl | exact .inr rfl | assumption) (hf2 : Z.X.fn y = true ∨ Z.X.env.scope.names.lookup y = some .local := by first | exact .inl rfl | exact .inr rfl | assumption)
    (hg : Gl Z.X "enumerate" := by rfl) (hse : starEach [.Name f pf] Z.X.env = [(false, eval (.Name f pf) Z.X.env)] := by rfl)
    (hs1 : (assignEach [.Name x qx, .Name y qy] Z.X.env).map (·.2) = assign (.Name x qx) Z.X.env :: (assignEach [.Name y qy] Z.X.env).map (·.2) := by rfl) (hs2 : (assignEach [.Name y qy] Z.X.env).map (·.2) = assign (.Name y qy) Z.X.env :: (assignEach [] Z.X.env).map (·.2) := by rfl)
    (hn : (assignEach [.Name x qx, .Name y qy] Z.X.env).length = 2 := by rfl) (hst : (assignEach [.Name x qx, .Name y qy] Z.X.env).findIdx? (·.1) = none := by rfl)
    (hbase : attributeBase (.Name y q4) "append" Z.X.env (eval (.Name y q4) Z.X.env) = eval (.Name y q4) Z.X.env := by rfl)
    (hfew : ((backTo cpos (starEach [e] Z.X.env)).all (fun x => !x.1) && (backToKw cpos (keywordEach [] Z.X.env)).all (fun x => x.1.isSome)
      && decide ([e].length + ([] : List Keyword).length + (if ([] : List Keyword).isEmpty then 0 else 1) < 30)) = true := by rfl)
    (hline : (apos.endLine == cpos.line) = true := by rfl) (hs : starEach [e] Z.X.env = (false, eval e Z.X.env) :: starEach [] Z.X.env := by rfl)
    (hfs : ∀ v, foldedSetIterable (.Call (.Name "enumerate" p1) [.Name f pf] [] p2) Z.X.env v = pure v := by intro _; rfl) :
    MS Z (.For (.Tuple [.Name x qx, .Name y qy] kk q3) (.Call (.Name "enumerate" p1) [.Name f pf] [] p2) [.Expr (.Call (.Attribute (.Name y q4) "append" apos) [e] [] cpos) pos3] [] pos) (sEnumApp i ia io me) :=
  ps_imp (ps_for hp hc (pi_enum hg hm (pa_cons ho pa_nil hse) hse) (pg_tup hc (pgs_cons (pg_name hN h1 hx hf) (pgs_cons (pg_name hN h2 hyl hf2) pgs_nil hs2) hs1) hn hst)
    (pss_one (ps_expr (pe_bm PySem.F.plainAttrs_list PySem.F.slot_list_append PySem.F.type_list_append mt_append hy (pa_cons ha pa_nil hs) hbase hfew hline hs rfl))) hfs) fun E σ H q => by
  obtain ⟨env, G, Os, s, q⟩ := q
  unfold sEnumApp at q
  cases e0 : env[i]? with
  | none => rw [e0] at q; exact q.elim
  | some w0 =>
    have key : ∃ xs0, w0 = .nst xs0 := by
      rw [e0] at q
      cases w0 <;> first
        | exact q.elim
        | exact ⟨_, rfl⟩
    obtain ⟨ws0, rfl⟩ := key
    rw [e0] at q
    by_cases hlen : io < env.length
    · simp only [if_pos hlen] at q
      obtain ⟨a, vs0, O0, g1, g2, g3, g4⟩ := s.sl.atNst e0
      have q0 : PostS Z.D Z.W Z.io E σ G H Os (oFl (eaL i ia io me ws0.length 0 (killE [ia, io] env))) := by
        cases eo : eaL i ia io me ws0.length 0 (killE [ia, io] env) with
        | none => rw [eo] at q; exact q.elim
        | some env' => rw [eo] at q; exact q
      refine ⟨.ref a, g1, a, vs0, rfl, SqL.of g3, ?_⟩
      refine ⟨fun j m σ' H' => m = ws0.length - j ∧ j ≤ ws0.length ∧ ∃ env' G' Os' vs', StOk Z.D G' H' env' σ' Os' ∧ σ'[i]? = some (some (.ref a)) ∧ H' a = some (.lst vs') ∧ vs'.length = ws0.length ∧ io < env'.length ∧ Step G H Os.flatten G' H' Os'.flatten ∧ IoS Z.io σ σ' ∧ PostS Z.D Z.W Z.io E σ' G' H' Os' (oFl (eaL i ia io me (ws0.length - j) j env')),
        ⟨ws0.length, rfl, Nat.zero_le _, killE [ia, io] env, G, killO [ia, io] Os, vs0, s.kill [ia, io], g1, g3, g4.len.symm, ?_, ?_, IoS.refl _, ?_⟩, ?_⟩
      · have lk : (killE [ia, io] env).length = env.length := by rw [(s.kill [ia, io]).sl.len.1, s.sl.len.1]
        rw [lk]; exact hlen
      · exact (Step.refl G H Os.flatten).less fun b hb => killO_sub b hb
      · exact PostS.on ((Step.refl G H Os.flatten).less fun b hb => killO_sub b hb) (IoS.refl _) q0
      rintro j m σ2 H2 ⟨rfl, hj, env2, G2, Os2, vs2, s2, k1, k3, kl, klen, kst, kio, q2⟩
      by_cases hl : j < ws0.length
      · have hv : vs2[j]? = some vs2[j] := List.getElem?_eq_getElem (by omega)
        refine .inr ⟨⟨vs2, vs2[j], SqL.of k3, hv⟩, fun σ3 H3 => ∃ env' G' Os' vs', StOk Z.D G' H3 env' σ3 Os' ∧ σ3[i]? = some (some (.ref a)) ∧ H3 a = some (.lst vs') ∧ vs'.length = ws0.length ∧ io < env'.length ∧ Step G H Os.flatten G' H3 Os'.flatten ∧ IoS Z.io σ σ3 ∧ PostS Z.D Z.W Z.io E σ3 G' H3 Os' (oFl (eaL i ia io me (ws0.length - (j + 1)) (j + 1) env')),
          fun σ3 H3 h => ⟨ws0.length - (j + 1), by omega, rfl, hl, h⟩, fun v H3 yl => ?_⟩
        obtain ⟨T, x', rfl, nT, rfl, yx⟩ := yl
        have ex : x' = vs2[j] := Option.some.inj ((yx vs2 (SqL.of k3)).symm.trans hv)
        subst ex
        have st3 := step_frz (o := .tup [.int (j : Nat), vs2[j]]) s2.sub nT
        have s3 := s2.step st3 (sub_upd2 s2.sub)
        have s3' : StOk Z.D (upd G2 T (.tup [.int (j : Nat), vs2[j]])) (upd H2 T (.tup [.int (j : Nat), vs2[j]])) (env2.set ia (.int (j : Nat))) (σ2.set ia (some (.int (j : Nat)))) (Os2.set ia []) := s3.putF ia rfl
        have s4 : StOk Z.D (upd G2 T (.tup [.int (j : Nat), vs2[j]])) (upd H2 T (.tup [.int (j : Nat), vs2[j]])) ((env2.set ia (.int (j : Nat))).set io .dead) ((σ2.set ia (some (.int (j : Nat)))).set io (some vs2[j])) ((Os2.set ia []).set io []) :=
          ⟨Sl.set (.inr ⟨rfl, rfl⟩) io s3'.sl, s3'.sub, fun b hb => s3'.gn b (flat_sub b hb), flat_nd s3'.nd⟩
        have sub4 : ∀ b ∈ ((Os2.set ia []).set io []).flatten, b ∈ Os2.flatten := fun b hb => flat_sub b (flat_sub b hb)
        obtain ⟨n', hn'⟩ : ∃ n', ws0.length - j = n' + 1 := ⟨ws0.length - j - 1, by omega⟩
        have hn2 : ws0.length - (j + 1) = n' := by omega
        rw [hn', eaL] at q2
        cases em : me ((env2.set ia (.int (j : Nat))).set io .dead) with
        | bad => simp only [em] at q2; exact q2.elim
        | ex c env5 => simp only [em] at q2; exact q2.elim
        | ok w env5 =>
          simp only [em] at q2
          by_cases hw : w.frz = true
          · simp only [if_pos hw] at q2
            cases e4 : ((env2.set ia (.int (j : Nat))).set io .dead)[i]? with
            | none => simp only [e4] at q2; exact q2.elim
            | some wi =>
              have key4 : ∃ ws, wi = .nst ws := by
                cases wi <;> first
                  | (exfalso; simp only [e4] at q2; exact q2.elim)
                  | exact ⟨_, rfl⟩
              obtain ⟨ws, rfl⟩ := key4
              simp only [e4] at q2
              cases ew : ws[j]? with
              | none => simp only [ew] at q2; exact q2.elim
              | some wj =>
                have key5 : ∃ xs, wj = .lst true xs := by
                  cases wj <;> first
                    | (exfalso; simp only [ew] at q2; exact q2.elim)
                    | (rename_i b _; cases b <;> first | (exfalso; simp only [ew] at q2; exact q2.elim) | exact ⟨_, rfl⟩)
                obtain ⟨xs, rfl⟩ := key5
                simp only [ew] at q2
                by_cases hx2 : xs.length < sizeLine
                · simp only [if_pos hx2] at q2
                  obtain ⟨a', vs4, O4, c1, c2, c3, c4⟩ := s4.sl.atNst e4
                  have ca : a' = a := by
                    rw [List.getElem?_set_ne (Ne.symm hib), List.getElem?_set_ne (Ne.symm hia), k1] at c1
                    cases c1
                    rfl
                  subst ca
                  have ev : vs4 = vs2 := by
                    rw [upd_ne (ne_of_none k3 nT), k3] at c3
                    cases c3
                    rfl
                  subst ev
                  have nd4 : O4.Nodup := (List.nodup_cons.mp (nd_at s4.nd c2)).2
                  obtain ⟨b, us, d1, d2, d3, d4, d5⟩ := c4.child nd4 ew
                  rw [hv] at d1
                  have eb : vs4[j] = .ref b := Option.some.inj d1
                  have lio : io < (σ2.set ia (some (.int (j : Nat)))).length := by rw [List.length_set, ← s2.sl.len.1]; exact klen
                  refine ⟨T, [.int (j : Nat), vs4[j]], rfl, SqT.of upd_same, rfl, .int (j : Nat), [vs4[j]], rfl, vs4[j], [], rfl, rfl, ?_⟩
                  refine ⟨vs4[j], List.getElem?_set_self lio, ?_⟩
                  rw [eb]
                  rw [eb] at s4 st3
                  have d3' : (upd H2 T (.tup [.int (j : Nat), .ref b])) b = some (.lst us) := by rw [← eb]; exact d3
                  refine ⟨.inl ⟨rfl, _, SqL.of d3'⟩, _, _, _, s4, ?_⟩
                  rw [em]
                  intro v5 G5 H5 Os5 O5 s5 r5 o5 t5
                  obtain ⟨rfl, rfl, t5'⟩ := id t5
                  obtain ⟨rfl, f5⟩ := r5.toF hw
                  obtain ⟨a5, vs5, O6, x1, x2, x3, x4⟩ := s5.sl.atNst e4
                  rw [← eb] at x1
                  have ea5 : a5 = a' := by rw [c1] at x1; cases x1; rfl
                  subst ea5
                  rw [eb] at x1
                  have eO6 : O6 = O4 := by rw [c2] at x2; cases x2; rfl
                  subst eO6
                  have ev5 : vs5 = vs4 := by
                    have := t5'.keep a5 (.lst vs4) (by rw [← eb]; exact c3) (fun z => nomatch z)
                    rw [x3] at this
                    cases this
                    rfl
                  subst ev5
                  obtain ⟨b5, us5, y1, y2, y3, y4, y5⟩ := x4.child nd4 ew
                  have eb5 : b5 = b := by rw [hv, eb] at y1; cases y1; rfl
                  subst eb5
                  have l5 : us5.length < sizeLine := by rw [← y4.len]; exact hx2
                  refine ⟨b5, us5, v5, rfl, rfl, y3, l5, ?_⟩
                  have na : b5 ≠ a5 := fun e => (List.nodup_cons.mp (nd_at s5.nd x2)).1 (by rw [← e]; exact d2)
                  have ro : RO Z.D G5 (upd H5 b5 (.lst (us5 ++ [v5]))) (.nst (ws.set j (.lst true (xs ++ [w])))) (.ref a5) ((a5 :: O6) ++ []) := by
                    rw [List.append_nil]
                    refine ⟨a5, vs5, O6, rfl, rfl, ?_, y5 _ _ (RFs.append y4 (show RFs Z.D G5 [w] [v5] from ⟨v5, [], rfl, f5, rfl⟩))⟩
                    rw [upd_ne (Ne.symm na)]
                    exact x3
                  obtain ⟨Os6, s6, t6⟩ := s5.updO x2 x1 (List.mem_cons_of_mem _ d2) ro (by rw [List.append_nil]; exact s5.nd) (fun _ z => nomatch z)
                  rw [List.append_nil] at t6
                  have T1 : Step G2 H2 Os2.flatten (upd G2 T (.tup [.int (j : Nat), .ref b5])) (upd H2 T (.tup [.int (j : Nat), .ref b5])) ((Os2.set ia []).set io []).flatten := st3.pure0.less fun x hx => List.mem_append_left _ (sub4 x hx)
                  have T2 := (Stp.gen t5).less (O2 := ((Os2.set ia []).set io []).flatten) fun x hx => List.mem_append_left _ hx
                  have T3 : Step G2 H2 Os2.flatten G5 (upd H5 b5 (.lst (us5 ++ [v5]))) (killO [ia, io] Os6).flatten := ((T1.trans T2).trans t6).less fun x hx => killO_sub x hx
                  have I3 : IoS Z.io σ2 ((σ2.set ia (some (.int (j : Nat)))).set io (some (.ref b5))) := (IoS.set hioa).trans (IoS.set hiob)
                  refine ⟨_, G5, _, vs5, s6.kill [ia, io], x1, ?_, kl, ?_, kst.trans T3, kio.trans I3, ?_⟩
                  · rw [upd_ne (Ne.symm na)]
                    exact x3
                  · rw [(s6.kill [ia, io]).sl.len.1, List.length_set, List.length_set, ← s2.sl.len.1]
                    exact klen
                  · rw [hn2]
                    exact PostS.on T3 I3 q2
                · simp only [if_neg hx2] at q2; exact q2.elim
          · simp only [if_neg hw] at q2; exact q2.elim
      · have e2 : j = ws0.length := by omega
        subst e2
        rw [Nat.sub_self, eaL] at q2
        exact .inl ⟨⟨vs2, SqL.of k3, by omega⟩, q2 σ2 G2 H2 Os2 s2 (Step.refl _ _ _) (IoS.refl _)⟩
    · simp only [if_neg hlen] at q; exact q.elim
end Ev

namespace Ev
open PySem PySem.Spec L2

/-! ### keys of dicts -/
def keyW : Key → W
  | .inl i => .int i
  | .inr x => .str x
def wKey : W → Option Key
  | .int i => some (.inl i)
  | .str x => some (.inr x)
  | _ => none
def wKeys : List W → Option (List Key)
  | [] => some []
  | w :: ws => match wKey w, wKeys ws with
    | some k, some ks => some (k :: ks)
    | _, _ => none
theorem RF.key {D : Dn} {G : Hp} {w : W} {v : V} {k : Key} (r : RF D G w v) (e : wKey w = some k) : v = kV k := by
  cases w <;> first
    | (cases e; exact r)
    | cases e
theorem RFs.keys {D : Dn} {G : Hp} : ∀ {ws : List W} {vs : List V} {ks : List Key}, RFs D G ws vs → wKeys ws = some ks → vs = ks.map kV
  | [], _, _, r, e => by cases e; exact r
  | w :: ws, _, ks, r, e => by
    obtain ⟨v, us, rfl, r1, r2⟩ := r
    unfold wKeys at e
    cases e1 : wKey w with
    | none => rw [e1] at e; cases e
    | some k =>
      cases e2 : wKeys ws with
      | none => rw [e1, e2] at e; cases e
      | some l =>
        rw [e1, e2] at e
        cases e
        rw [List.map_cons, ← RF.key r1 e1, ← RFs.keys r2 e2]
theorem key_rf {D : Dn} {G : Hp} : ∀ k : Key, RF D G (keyW k) (kV k)
  | .inl _ => rfl
  | .inr _ => rfl
theorem keys_rf {D : Dn} {G : Hp} : ∀ ks : List Key, RFs D G (ks.map keyW) (ks.map kV)
  | [] => rfl
  | k :: ks => ⟨_, _, rfl, key_rf k, keys_rf ks⟩
abbrev KK := Sum Key (List Key)
def KR (G : Hp) (y : V) : KK → Prop
  | .inl k => y = kV k
  | .inr ks => ∃ b, y = .ref b ∧ G b = some (.tup (ks.map kV))
theorem KR.mono {G G' : Hp} (e : Sub G G') {y : V} : ∀ {kk : KK}, KR G y kk → KR G' y kk
  | .inl _, h => h
  | .inr _, h => h.elim fun b q => ⟨b, q.1, e _ _ q.2⟩

/-! ### tables -/
section
variable {κ : Type} [DecidableEq κ]
def dAt {α : Type} : List κ → List α → κ → Option α
  | a :: l, w :: ws, k => if a = k then some w else dAt l ws k
  | _, _, _ => none
def dSet {α : Type} : List κ → List α → κ → α → List α
  | a :: l, w :: ws, k, x => (if a = k then x else w) :: dSet l ws k x
  | _, _, _, _ => []
def dPut {α : Type} (l : List κ) (ws : List α) (k : κ) (x : α) : List κ × List α := if k ∈ l then (l, dSet l ws k x) else (l ++ [k], ws ++ [x])
theorem dAt_val : ∀ {l : List κ} {vs : List V} (k : κ), l.length = vs.length → valV (l.zip vs) k = dAt l vs k
  | [], _, _, _ => rfl
  | a :: l, [], _, h => nomatch h
  | a :: l, v :: vs, k, h => by
    rw [List.zip_cons_cons]
    unfold dAt
    by_cases e : a = k
    · rw [if_pos e, valV_pos (p := (a, v)) e]
    · rw [if_neg e, valV_neg (p := (a, v)) e, dAt_val k (Nat.succ.inj h)]
def ORel (D : Dn) (G : Hp) : Option W → Option V → Prop
  | some w, o => ∃ v, o = some v ∧ RF D G w v
  | none, o => o = none
theorem dAt_rf {D : Dn} {G : Hp} : ∀ {l : List κ} {ws : List W} {vs : List V} (k : κ), RFs D G ws vs → ORel D G (dAt l ws k) (dAt l vs k)
  | [], _, _, _, _ => by unfold dAt; rfl
  | a :: l, [], _, _, r => by rw [show _ = [] from r]; unfold dAt; rfl
  | a :: l, w :: ws, _, k, r => by
    obtain ⟨v, us, rfl, r1, r2⟩ := r
    unfold dAt
    by_cases e : a = k
    · simp only [if_pos e]; exact ⟨v, rfl, r1⟩
    · simp only [if_neg e]; exact dAt_rf k r2
theorem dSet_zip : ∀ {l : List κ} {vs : List V} {k : κ} {v : V}, l.length = vs.length → (l.zip vs).map (fun kv => if kv.1 = k then (kv.1, v) else kv) = l.zip (dSet l vs k v)
  | [], [], _, _, _ => rfl
  | [], _ :: _, _, _, h => nomatch h
  | a :: l, [], _, _, h => nomatch h
  | a :: l, u :: vs, k, v, h => by
    unfold dSet
    rw [List.zip_cons_cons, List.zip_cons_cons, List.map_cons, dSet_zip (Nat.succ.inj h)]
    by_cases e : a = k
    · rw [if_pos e, if_pos e]
    · rw [if_neg e, if_neg e]
theorem dSet_len {α : Type} : ∀ {l : List κ} {vs : List α} {k : κ} {v : α}, l.length = vs.length → (dSet l vs k v).length = vs.length
  | [], [], _, _, _ => rfl
  | [], _ :: _, _, _, h => nomatch h
  | a :: l, [], _, _, h => nomatch h
  | a :: l, u :: vs, k, v, h => by
    unfold dSet
    rw [List.length_cons, List.length_cons, dSet_len (Nat.succ.inj h)]
theorem dSet_rf {D : Dn} {G : Hp} {x : W} {v : V} {k : κ} (rx : RF D G x v) : ∀ {l : List κ} {ws : List W} {vs : List V}, RFs D G ws vs → RFs D G (dSet l ws k x) (dSet l vs k v)
  | [], _, _, _ => by unfold dSet; rfl
  | a :: l, [], _, r => by rw [show _ = [] from r]; unfold dSet; rfl
  | a :: l, w :: ws, _, r => by
    obtain ⟨u, us, rfl, r1, r2⟩ := r
    unfold dSet
    refine ⟨_, _, rfl, ?_, dSet_rf rx r2⟩
    by_cases e : a = k
    · rw [if_pos e, if_pos e]; exact rx
    · rw [if_neg e, if_neg e]; exact r1
theorem zip_any : ∀ {l : List κ} {vs : List V} {k : κ}, l.length = vs.length → ((l.zip vs).any fun kv => decide (kv.1 = k)) = decide (k ∈ l)
  | [], [], _, _ => rfl
  | [], _ :: _, _, h => nomatch h
  | a :: l, [], _, h => nomatch h
  | a :: l, u :: vs, k, h => by
    rw [List.zip_cons_cons, List.any_cons, zip_any (Nat.succ.inj h)]
    by_cases e : a = k
    · subst e; simp
    · have e' : ¬ k = a := fun z => e z.symm
      simp [e, e']
theorem dPut_ok {D : Dn} {G : Hp} {x : W} {v : V} {k : κ} {l : List κ} {ws : List W} {vs : List V} (r : RFs D G ws vs) (rx : RF D G x v) (hl : l.length = vs.length) :
    ∃ us, putK (l.zip vs) k v = (dPut l ws k x).1.zip us ∧ (dPut l ws k x).1.length = us.length ∧ RFs D G (dPut l ws k x).2 us := by
  unfold putK dPut
  rw [zip_any hl]
  by_cases e : k ∈ l
  · rw [if_pos (decide_eq_true e), if_pos e]
    exact ⟨_, dSet_zip hl, hl.trans (dSet_len hl).symm, dSet_rf rx r⟩
  · rw [if_neg (by simp [e]), if_neg e]
    refine ⟨vs ++ [v], ?_, by simp [hl], r.append ⟨v, [], rfl, rx, rfl⟩⟩
    rw [List.zip_append hl]; rfl
end
def dFind : DKs → List W → KK → Option (Option W)
  | .k l, ws, .inl k => some (dAt l ws k)
  | .t l, ws, .inr k => some (dAt l ws k)
  | _, _, _ => none
def dStore : DKs → List W → KK → W → Option (DKs × List W)
  | .k l, ws, .inl k, x => some (.k (dPut l ws k x).1, (dPut l ws k x).2)
  | .t l, ws, .inr k, x => some (.t (dPut l ws k x).1, (dPut l ws k x).2)
  | _, _, _, _ => none
theorem dct_rd {D : Dn} {G H : Hp} {b : Bool} {ks : DKs} {ws : List W} {v : V} {O : List Addr} (s : Sub G H) (r : RO D G H (.dct b ks ws) v O) : ∃ a vs, v = .ref a ∧ RFs D G ws vs ∧ match ks with
    | .k l => l.length = vs.length ∧ Rd H a (.dK (l.zip vs))
    | .t l => l.length = vs.length ∧ Rd H a (.dT (l.zip vs)) := by
  cases b with
  | true =>
    obtain ⟨a, vs, rfl, rfl, h1, h2⟩ := r
    refine ⟨a, vs, rfl, h2, ?_⟩
    cases ks with
    | k l => exact ⟨h1.1, .inl h1.2⟩
    | t l => exact ⟨h1.1, .inl h1.2⟩
  | false =>
    obtain ⟨rfl, a, vs, rfl, h1, h2⟩ := r
    refine ⟨a, vs, rfl, h2, ?_⟩
    cases ks with
    | k l => exact ⟨h1.1, .inr (h1.2.elim fun o e => ⟨o, s _ _ e⟩)⟩
    | t l => exact ⟨h1.1, .inr (h1.2.elim fun o e => ⟨o, s _ _ e⟩)⟩
theorem dct_isD {D : Dn} {G H : Hp} {b : Bool} {ks : DKs} {ws : List W} {v : V} {O : List Addr} (s : Sub G H) (r : RO D G H (.dct b ks ws) v O) : ∃ a, v = .ref a ∧ IsD H a := by
  obtain ⟨a, vs, rfl, _, h⟩ := dct_rd s r
  cases ks with
  | k l => exact ⟨a, rfl, .inl ⟨_, h.2⟩⟩
  | t l => exact ⟨a, rfl, .inr ⟨_, h.2⟩⟩
theorem dct_get {D : Dn} {G H : Hp} {b : Bool} {ks : DKs} {ws : List W} {v y : V} {O : List Addr} {kk : KK} {ow : Option W} (s : Sub G H) (r : RO D G H (.dct b ks ws) v O) (hy : KR G y kk) (e : dFind ks ws kk = some ow) :
    ∃ a o, v = .ref a ∧ DGet H a y o ∧ ORel D G ow o := by
  obtain ⟨a, vs, rfl, rf, h⟩ := dct_rd s r
  cases ks with
  | k l =>
    cases kk with
    | inr _ => cases e
    | inl k =>
      cases e
      subst hy
      refine ⟨a, _, rfl, .inl ⟨_, k, h.2, rfl, rfl⟩, ?_⟩
      rw [dAt_val k h.1]
      exact dAt_rf k rf
  | t l =>
    cases kk with
    | inl _ => cases e
    | inr k =>
      cases e
      obtain ⟨c, rfl, hc⟩ := hy
      refine ⟨a, _, rfl, .inr ⟨_, k, c, h.2, rfl, s _ _ hc, rfl⟩, ?_⟩
      rw [dAt_val k h.1]
      exact dAt_rf k rf

/-! ### what is a key -/
def TXK (D : Dn) (Wx : WX) (p : Bool) (m : Sm KK) : TE := fun σ H Q => ∃ (env : List W) (G : Hp) (Os : List (List Addr)), StOk D G H env σ Os ∧ match m env with
  | .ok kk env' => ∀ y G' H' Os', StOk D G' H' env' σ Os' → KR G' y kk → Stp p env G H Os env' G' H' Os' [] → Q y H'
  | .ex c env' => ∀ G' H' Os', StOk D G' H' env' σ Os' → Stp p env G H Os env' G' H' Os' [] → Wx (.ref (D.CA c)) none σ H'
  | .bad => False
abbrev MK (Z : Zt) (e : Expr) (m : Sm KK) (p : Bool) : Prop := PE Z.X e (TXK Z.D Z.W p m)
def mKey1 (m : Sm W) : Sm KK := Sm.bind m fun w => lft ((wKey w).map Sum.inl)
def keyT (ws : List W) : Option KK := if ws.length ≤ 15 then (wKeys ws).map Sum.inr else none
def mKeyT (m : Sm (List W)) : Sm KK := Sm.bind m fun ws => lft (keyT ws)
theorem mk_1 {Z : Zt} {e : Expr} {m : Sm W} {p k : Bool} (h : ME Z e m p k) : MK Z e (mKey1 m) p := pe_imp h fun σ H Q q => by
  obtain ⟨env, G, Os, s, q⟩ := q
  refine ⟨env, G, Os, s, ?_⟩
  unfold mKey1 Sm.bind lft at q
  cases e1 : m env with
  | bad => rw [e1] at q; exact q
  | ex c env1 => rw [e1] at q; exact q
  | ok w env1 =>
    rw [e1] at q
    intro v G' H' Os' Ow s' r o t
    cases e2 : wKey w with
    | none => simp only [e2, Option.map_none] at q
    | some kk =>
      simp only [e2, Option.map_some] at q
      have hf : w.frz = true := by cases w <;> first | rfl | cases e2
      obtain ⟨rfl, rf⟩ := r.toF hf
      exact q v G' H' Os' s' (RF.key rf e2) (t.less kO_less)
theorem mk_tup {Z : Zt} {es : List Expr} {k : Nat} {pos : Pos} {m : Sm (List W)} {p : Bool} (h : MA Z es m p) : MK Z (.Tuple es k pos) (mKeyT m) p := pe_imp (pe_tup h) fun σ H Q q => by
  obtain ⟨env, G, Os, s, q⟩ := q
  refine ⟨env, G, Os, s, ?_⟩
  unfold mKeyT Sm.bind lft at q
  cases e1 : m env with
  | bad => rw [e1] at q; exact q
  | ex c env1 => rw [e1] at q; exact q
  | ok ws env1 =>
    rw [e1] at q
    intro vs G1 H1 Os1 s1 r1 t1
    unfold keyT at q
    by_cases hl : ws.length ≤ 15
    · simp only [if_pos hl] at q
      cases e2 : wKeys ws with
      | none => simp only [e2, Option.map_none] at q
      | some ks =>
        simp only [e2, Option.map_some] at q
        have ev := r1.keys e2
        subst ev
        refine ⟨by rw [← r1.len]; have := sizeLine_eq; omega, fun a n => ?_⟩
        have st := step_frz (o := .tup (ks.map kV)) s1.sub n
        refine q (.ref a) _ _ Os1 (s1.step st (sub_upd2 s1.sub)) ⟨a, rfl, upd_same⟩ ?_
        have z := t1.trans (Stp.grow true (env := env1) (Os := Os1) st)
        rwa [Bool.and_true] at z
    · simp only [if_neg hl] at q

/-! ### {}, d[k], d.get(k, x) -/
def mDNew (ks : DKs) : Sm W := Sm.ret (.dct true ks [])
theorem me_dnewK {Z : Zt} {pos : Pos} : ME Z (.Dict [] [] pos) (mDNew (.k [])) true true := pe_imp pe_dnewK fun σ H Q q p n => by
  obtain ⟨env, G, Os, s, q⟩ := q
  have st := step_own (G := G) (o := .dK []) n
  refine q (.ref p) G _ Os [p] (s.step (st.less (O2 := []) fun _ z => nomatch z) (sub_upd s.sub n)) ⟨p, [], rfl, rfl, ⟨rfl, upd_same⟩, rfl⟩ ⟨s.apart st (by simp), fun a ha => by rw [List.mem_singleton.mp ha]; exact sub_none s.sub n⟩ ⟨rfl, rfl, st⟩
theorem me_dnewT {Z : Zt} {pos : Pos} : ME Z (.Dict [] [] pos) (mDNew (.t [])) true true := pe_imp pe_dnewT fun σ H Q q p n => by
  obtain ⟨env, G, Os, s, q⟩ := q
  have st := step_own (G := G) (o := .dT []) n
  refine q (.ref p) G _ Os [p] (s.step (st.less (O2 := []) fun _ z => nomatch z) (sub_upd s.sub n)) ⟨p, [], rfl, rfl, ⟨rfl, upd_same⟩, rfl⟩ ⟨s.apart st (by simp), fun a ha => by rw [List.mem_singleton.mp ha]; exact sub_none s.sub n⟩ ⟨rfl, rfl, st⟩
def dLook : W → KK → Option W
  | .dct _ ks ws, kk => (dFind ks ws kk).bind id
  | _, _ => none
def dLookD : W → KK → W → Option W
  | .dct _ ks ws, kk, x => (dFind ks ws kk).map fun o => o.getD x
  | _, _, _ => none
def mDGet (g : Bool) (mo : Sm W) (mk : Sm KK) : Sm W := Sm.bind mo fun w1 => Sm.bind mk fun kk => if (g || w1.frz) = true then lft (dLook w1 kk) else fun _ => .bad
theorem me_dget {Z : Zt} {n : Nat} {o i : Expr} {pos : Pos} {m1 : Sm W} {mk : Sm KK} {p1 p2 k1 : Bool} (hr : Room n Z.X.A) (ho : ME Z o m1 p1 k1) (hi : MK Z i mk p2) (hs : NoSl i := by intro _ _; rfl) :
    ME Z (.Subscript o i pos) (mDGet (k1 || p2) m1 mk) (p1 && p2) true := pe_imp (pe_dget (by have := hr.un; omega) ho hi hs) fun σ H Q q => by
  obtain ⟨env, G, Os, s, q⟩ := q
  refine ⟨env, G, Os, s, ?_⟩
  unfold mDGet Sm.bind at q
  cases e1 : m1 env with
  | bad => rw [e1] at q; exact q
  | ex c env1 =>
    rw [e1] at q
    exact fun G' H' Os' s' t => q G' H' Os' s' (t.and p2)
  | ok w1 env1 =>
    rw [e1] at q
    intro v1 G1 H1 Os1 O1 s1 r1 o1 t1
    refine ⟨env1, G1, Os1, s1, ?_⟩
    cases e2 : mk env1 with
    | bad => simp only [e2] at q
    | ex c env2 =>
      simp only [e2] at q
      exact fun G' H' Os' s' t => q G' H' Os' s' ((t1.less kO_less).trans t)
    | ok kk env2 =>
      simp only [e2] at q
      intro y G2 H2 Os2 s2 hy t2
      by_cases hg : ((k1 || p2) || w1.frz) = true
      · simp only [if_pos hg, lft] at q
        have r1' : RO Z.D G2 H2 w1 v1 O1 := stay s1 r1 o1 t2 hg
        have tt := (t1.less kO_less).trans t2
        cases e3 : dLook w1 kk with
        | none => simp only [e3] at q
        | some w =>
          simp only [e3] at q
          cases w1 <;> first
            | cases e3
            | (rename_i b ks ws
               replace e3 : (dFind ks ws kk).bind id = some w := e3
               cases e4 : dFind ks ws kk with
               | none => rw [e4] at e3; cases e3
               | some ow =>
                 rw [e4] at e3
                 have e5 : ow = some w := e3
                 subst e5
                 obtain ⟨a, o, rfl, hd, u, rfl, rf⟩ := dct_get s2.sub r1' hy e4
                 exact ⟨a, u, rfl, hd, q u G2 H2 Os2 [] s2 (RO.ofF rf) (OwnK.nil s2) tt⟩)
      · simp only [if_neg hg] at q
def isDW : W → Bool
  | .dct _ _ _ => true
  | _ => false
def mDGet2 (g : Bool) (mo : Sm W) (mk : Sm KK) (md : Sm W) : Sm W := Sm.bind mo fun w1 => if isDW w1 = true then Sm.bind mk fun kk => Sm.bind md fun w3 => if (g || w1.frz) = true ∧ w3.frz = true then lft (dLookD w1 kk w3) else fun _ => .bad else fun _ => .bad
theorem me_dget2 {Z : Zt} {n : Nat} {o i f : Expr} {apos cpos : Pos} {m1 md : Sm W} {mk : Sm KK} {p1 p2 p3 k1 k3 : Bool} (hr : Room n Z.X.A) (ho : ME Z o m1 p1 k1) (hi : MK Z i mk p2) (hf : ME Z f md p3 k3)
    (m : M2 Z.X o "get" apos i f cpos := by exact ⟨by rfl, by rfl, by rfl, by rfl⟩) :
    ME Z (.Call (.Attribute o "get" apos) [i, f] [] cpos) (mDGet2 (k1 || (p2 && p3)) m1 mk md) (p1 && (p2 && p3)) true := pe_imp (pe_dget2 (by have := hr.un; omega) ho hi hf m) fun σ H Q q => by
  obtain ⟨env, G, Os, s, q⟩ := q
  refine ⟨env, G, Os, s, ?_⟩
  unfold mDGet2 Sm.bind at q
  cases e1 : m1 env with
  | bad => rw [e1] at q; exact q
  | ex c env1 =>
    rw [e1] at q
    exact fun G' H' Os' s' t => q G' H' Os' s' (t.and (p2 && p3))
  | ok w1 env1 =>
    rw [e1] at q
    intro v1 G1 H1 Os1 O1 s1 r1 o1 t1
    by_cases hw : isDW w1 = true
    · simp only [if_pos hw] at q
      have hw' : ∃ b ks ws, w1 = .dct b ks ws := by
        cases w1 <;> first
          | exact ⟨_, _, _, rfl⟩
          | cases hw
      obtain ⟨b, ks, ws, rfl⟩ := hw'
      obtain ⟨a, rfl, hd⟩ := dct_isD s1.sub r1
      refine ⟨a, rfl, hd, env1, G1, Os1, s1, ?_⟩
      cases e2 : mk env1 with
      | bad => simp only [e2] at q
      | ex c env2 =>
        simp only [e2] at q
        exact fun G' H' Os' s' t => q G' H' Os' s' ((t1.less kO_less).trans (t.and p3))
      | ok kk env2 =>
        simp only [e2] at q
        intro y G2 H2 Os2 s2 hy t2
        refine ⟨env2, G2, Os2, s2, ?_⟩
        cases e3 : md env2 with
        | bad => simp only [e3] at q
        | ex c env3 =>
          simp only [e3] at q
          exact fun G' H' Os' s' t => q G' H' Os' s' ((t1.less kO_less).trans (t2.trans t))
        | ok w3 env3 =>
          simp only [e3] at q
          intro z G3 H3 Os3 O3 s3 r3 o3 t3
          have t23 := t2.trans (t3.less kO_less)
          by_cases hg : ((k1 || (p2 && p3)) || (W.dct b ks ws).frz) = true ∧ w3.frz = true
          · simp only [if_pos hg, lft] at q
            have r1' : RO Z.D G3 H3 (.dct b ks ws) (.ref a) O1 := stay s1 r1 o1 t23 hg.1
            obtain ⟨rfl, f3⟩ := r3.toF hg.2
            have tt := (t1.less kO_less).trans t23
            cases e4 : dLookD (.dct b ks ws) kk w3 with
            | none => simp only [e4] at q
            | some w =>
              simp only [e4] at q
              replace e4 : (dFind ks ws kk).map (fun o => o.getD w3) = some w := e4
              cases e5 : dFind ks ws kk with
              | none => rw [e5] at e4; cases e4
              | some ow =>
                rw [e5] at e4
                have e6 : ow.getD w3 = w := Option.some.inj e4
                obtain ⟨a', o, ea, hd, ho⟩ := dct_get s3.sub r1' (hy.mono t3.gen.mono) e5
                cases ea
                refine ⟨o, hd, ?_⟩
                have rf : RF Z.D G3 w (o.getD z) := by
                  cases ow with
                  | none =>
                    have ho' : o = none := ho
                    subst ho'
                    rw [← e6]; exact f3
                  | some x =>
                    obtain ⟨u, rfl, ru⟩ := ho
                    rw [← e6]; exact ru
                exact q _ G3 H3 Os3 [] s3 (RO.ofF rf) (OwnK.nil s3) tt
          · simp only [if_neg hg] at q
    · simp only [if_neg hw] at q

/-! ### d[k] = e -/
def dPutW (ks : DKs) (ws : List W) (kk : KK) (w : W) (i : Nat) (env : List W) : Out Fl := if ws.length < sizeLine then match dStore ks ws kk w with
    | some q => .ok .nx (env.set i (.dct true q.1 q.2))
    | none => .bad
  else .bad
def sDPut (i : Nat) (mk : Sm KK) (me : Sm W) : Sm Fl := Sm.bind me fun w env => if w.frz = true then match env[i]? with
    | some (.dct true ks ws) => (match mk env with
      | .ok kk env2 => dPutW ks ws kk w i env2
      | _ => .bad)
    | _ => .bad
  else .bad
theorem Sl.atDct {D : Dn} {G H : Hp} {env : List W} {σ : L2.St} {Os : List (List Addr)} {i : Nat} {ks : DKs} {ws : List W} (s : Sl D G H env σ Os) (e : env[i]? = some (.dct true ks ws)) : ∃ a vs, σ[i]? = some (some (.ref a)) ∧ Os[i]? = some [a] ∧ DR H a ks vs ∧ RFs D G ws vs := by
  obtain ⟨sv, O, h1, h2, h3⟩ := s.at e
  rcases h3 with ⟨v, rfl, r⟩ | ⟨z, _⟩
  · obtain ⟨a, vs, rfl, rfl, k1, k2⟩ := r
    exact ⟨a, vs, h1, h2, k1, k2⟩
  · cases z
theorem ms_dput {Z : Zt} {n i : Nat} {o ix e : Expr} {me : Sm W} {mk : Sm KK} {p1 k1 : Bool} {pos pos2 : Pos} (hr : Room n Z.X.A) (he : ME Z e me p1 k1) (ho : PE Z.X o (tVar i)) (hk : MK Z ix mk true)
    (hs : swapsWith e (some (.Subscript o ix pos2)) pos.line Z.X.env = pure false := by rfl) : MS Z (.Assign [.Subscript o ix pos2] e pos) (sDPut i mk me) := ps_imp (ps_dput (by have := hr.un; omega) ho hk he hs) fun E σ H q => by
  obtain ⟨env, G, Os, s, q⟩ := q
  refine ⟨env, G, Os, s, ?_⟩
  unfold sDPut Sm.bind at q
  cases e1 : me env with
  | bad => rw [e1] at q; exact q
  | ex c env1 =>
    rw [e1] at q
    exact fun G' H' Os' s' t => q σ G' H' Os' s' t.st (IoS.refl _)
  | ok w env1 =>
    rw [e1] at q
    intro v G1 H1 Os1 Ow s1 r1 o1 t1
    by_cases hf : w.frz = true
    · simp only [if_pos hf] at q
      obtain ⟨rfl, rf⟩ := r1.toF hf
      have hd : ∃ ks ws, env1[i]? = some (.dct true ks ws) := by
        cases e0 : env1[i]? with
        | none => simp only [e0] at q; exact q.elim
        | some w0 =>
          cases w0 <;> first
            | (simp only [e0] at q; exact q.elim)
            | (rename_i b _ _; cases b <;> first | (simp only [e0] at q; exact q.elim) | exact ⟨_, _, rfl⟩)
      obtain ⟨ks, ws, e0⟩ := hd
      simp only [e0] at q
      obtain ⟨a, vs, h1, h2, h3, h4⟩ := s1.sl.atDct e0
      refine ⟨.ref a, h1, env1, G1, Os1, s1, ?_⟩
      cases e2 : mk env1 with
      | bad => simp only [e2] at q; exact q.elim
      | ex c env2 => simp only [e2] at q; exact q.elim
      | ok kk env2 =>
        simp only [e2] at q
        intro y G2 H2 Os2 s2 hy t2
        obtain ⟨rfl, rfl, t2'⟩ := id t2
        unfold dPutW at q
        by_cases hl : ws.length < sizeLine
        · rw [if_pos hl] at q
          cases e3 : dStore ks ws kk w with
          | none => rw [e3] at q; exact q.elim
          | some st =>
            rw [e3] at q
            have rf2 := RF.mono t2'.mono _ _ rf
            have rs2 := RFs.mono t2'.mono _ _ h4
            have h3' : DR H2 a ks vs := h3.keep fun o e => t2'.keep a o e (fun z => nomatch z)
            have done : ∀ (ho : HO) (us : List V), DR (upd H2 a ho) a st.1 us → RFs Z.D G2 st.2 us → E.nx σ (upd H2 a ho) := fun ho us d r => by
              obtain ⟨Os3, s3, t3⟩ := s2.updO (Ow := []) (w' := .dct true st.1 st.2) h2 h1 List.mem_cons_self ⟨a, us, rfl, rfl, d, r⟩ (by rw [List.append_nil]; exact s2.nd) (fun _ z => nomatch z)
              rw [List.append_nil] at t3
              exact q σ G2 (upd H2 a ho) Os3 s3 ((t1.st.trans t2.st).trans t3) (IoS.refl _)
            cases ks with
            | k l =>
              cases kk with
              | inr _ => cases e3
              | inl k =>
                cases e3
                subst hy
                obtain ⟨us, e4, e5, e6⟩ := dPut_ok (k := k) rs2 rf2 h3'.1
                refine ⟨a, _, rfl, .inl ⟨_, k, h3'.2, rfl, ?_, rfl⟩, ?_⟩
                · rw [List.length_zip, ← h3'.1, Nat.min_self, h3'.1, ← h4.len]; exact hl
                · rw [e4]
                  exact done _ us ⟨e5, upd_same⟩ e6
            | t l =>
              cases kk with
              | inl _ => cases e3
              | inr k =>
                cases e3
                obtain ⟨c, rfl, hc⟩ := hy
                obtain ⟨us, e4, e5, e6⟩ := dPut_ok (k := k) rs2 rf2 h3'.1
                refine ⟨a, _, rfl, .inr ⟨_, k, c, h3'.2, rfl, s2.sub _ _ hc, ?_, rfl⟩, ?_⟩
                · rw [List.length_zip, ← h3'.1, Nat.min_self, h3'.1, ← h4.len]; exact hl
                · rw [e4]
                  exact done _ us ⟨e5, upd_same⟩ e6
        · rw [if_neg hl] at q; exact q.elim
    · simp only [if_neg hf] at q; exact q.elim

/-! ### a dict is locked while it is walked -/
def flatL : W → Bool
  | .lst true ws => flats ws
  | w => w.flat
def mLockD (i : Nat) (m : Sm W) : Sm W := fun env => match env[i]? with
  | some (.dct true ks ws) => (match m (env.set i (.dct false ks ws)) with
    | .ok w _ => if flatL w = true then .ok w env else .bad
    | _ => .bad)
  | _ => .bad
theorem me_lockD {Z : Zt} {e : Expr} {i : Nat} {m : Sm W} (h : ME Z e m true true) : ME Z e (mLockD i m) true true := pe_imp (pe_lock h) fun σ H Q q => by
  obtain ⟨env, G, Os, s, q⟩ := q
  unfold mLockD at q
  have hd : ∃ ks ws, env[i]? = some (.dct true ks ws) := by
    cases e0 : env[i]? with
    | none => simp only [e0] at q
    | some w0 =>
      cases w0 <;> first
        | (simp only [e0] at q; done)
        | (rename_i b _ _; cases b <;> first | (simp only [e0] at q; done) | exact ⟨_, _, rfl⟩)
  obtain ⟨ks, ws, e0⟩ := hd
  simp only [e0] at q
  obtain ⟨d, vs, h1, h2, h3, h4⟩ := s.sl.atDct e0
  obtain ⟨u, hu, mu⟩ : ∃ u, H d = some u ∧ Mut (some u) ∧ ∀ od, LkR (upd G d (.frz od u)) d ks vs := by
    cases ks with
    | k l => exact ⟨_, h3.2, trivial, fun od => ⟨h3.1, od, upd_same⟩⟩
    | t l => exact ⟨_, h3.2, trivial, fun od => ⟨h3.1, od, upd_same⟩⟩
  refine ⟨d, u, hu, mu.1, fun od => ?_⟩
  have inO : d ∈ Os.flatten := flat_mem h2 List.mem_cons_self
  have gd : G d = none := s.gn d inO
  have mono : Sub G (upd G d (.frz od u)) := sub_new gd
  have no := fun a ha => onceO s.nd h2 (a := a) ha
  -- the state with the dict locked
  have s1 : StOk Z.D (upd G d (.frz od u)) (upd H d (.frz od u)) (env.set i (.dct false ks ws)) σ (Os.set i []) := by
    refine ⟨?_, sub_upd2 s.sub, fun a ha => ?_, flat_nd s.nd⟩
    · have s0 : Sl Z.D (upd G d (.frz od u)) (upd H d (.frz od u)) (env.set i .dead) σ (Os.set i []) := (s.sl.kill1 i).mono mono fun a ha x hx => by
        rw [upd_ne (fun e => no d List.mem_cons_self (by rw [← e]; exact ha))]; exact hx
      have z := Sl.set (D := Z.D) (G := upd G d (.frz od u)) (H := upd H d (.frz od u)) (w := .dct false ks ws) (s := some (.ref d)) (O := []) (.inl ⟨_, rfl, rfl, d, vs, rfl, mu.2 od, RFs.mono mono _ _ h4⟩) i s0
      rw [set_self h1, List.set_set, List.set_set] at z
      exact z
    · rw [upd_ne (fun e => no d List.mem_cons_self (by rw [← e]; exact ha))]
      exact s.gn a (flat_sub a ha)
  refine ⟨_, _, _, s1, ?_⟩
  cases e1 : m (env.set i (.dct false ks ws)) with
  | bad => simp only [e1] at q
  | ex c env1 => simp only [e1] at q
  | ok w env1 =>
    simp only [e1] at q
    intro v G' H' Os' Ow s' r o t
    obtain ⟨rfl, rfl, t⟩ := t
    have hd' : H' d = some (.frz od u) := t.keep d _ upd_same (fun z => nomatch z)
    refine ⟨hd', ?_⟩
    by_cases hf : flatL w = true
    · simp only [if_pos hf] at q
      let G2 : Hp := fun a => if a = d then none else G' a
      have g2 : ∀ a, a ≠ d → G2 a = G' a := fun a h => if_neg h
      have g0 : G2 d = none := if_pos rfl
      have sub2 : Sub G2 (upd H' d u) := fun a x hx => by
        by_cases e : a = d
        · rw [e, g0] at hx; cases hx
        · rw [g2 a e] at hx; rw [upd_ne e]; exact s'.sub a x hx
      have nw : ∀ a ∈ Ow, H a = none ∧ a ≠ d := fun a ha => by
        rcases t.new a ha with z | z
        · cases z
        · by_cases e : a = d
          · rw [e, upd_same] at z; cases z
          · rw [upd_ne e] at z; exact ⟨z, e⟩
      have st : Step G H [] G2 (upd H' d u) Ow := by
        refine ⟨fun a x hx => ?_, fun a x hx _ => ?_, fun a x hx hn nt hg => ?_, fun a ha => .inr (nw a ha).1⟩
        · have e : a ≠ d := fun e => by rw [e, gd] at hx; cases hx
          rw [g2 a e]; exact t.mono a x (mono a x hx)
        · by_cases e : a = d
          · rw [e, upd_same]; rw [e, hu] at hx; exact hx
          · rw [upd_ne e]; exact t.keep a x (by rw [upd_ne e]; exact hx) (fun z => nomatch z)
        · by_cases e : a = d
          · rw [e]; exact g0
          · rw [g2 a e]; exact t.gnew a x (by rw [upd_ne e]; exact hx) (fun z => nomatch z) nt (by rw [upd_ne e]; exact hg)
      have s2 : StOk Z.D G2 (upd H' d u) env σ Os := s.step (st.less (O2 := []) fun _ z => nomatch z) sub2
      have gd' : G' d = some (.frz od u) := t.mono d _ upd_same
      have thin : ∀ a xs, SqT Z.D.K G' a xs → SqT Z.D.K G2 a xs := fun a xs h => by
        rcases h with (h | ⟨o', h⟩) | h
        · refine .inl (.inl ?_)
          have e : a ≠ d := fun e => by
            rw [e, gd'] at h
            cases h
          rw [g2 a e]; exact h
        · refine .inl (.inr ⟨o', ?_⟩)
          have e : a ≠ d := fun e => by
            rw [e, gd'] at h
            cases h
            exact mu.1
          rw [g2 a e]; exact h
        · exact .inr h
      have r2 : RO Z.D G2 (upd H' d u) w v Ow := by
        have hc : (∃ ws, w = .lst true ws) ∨ ¬ ∃ ws, w = .lst true ws := Classical.em _
        rcases hc with ⟨ws', rfl⟩ | hc
        · obtain ⟨a, us, rfl, rfl, k1, k2⟩ := r
          exact ⟨a, us, rfl, rfl, by rw [upd_ne (nw a List.mem_cons_self).2]; exact k1, RFs.thin thin _ _ hf k2⟩
        · have hf' : w.flat = true := by
            unfold flatL at hf
            split at hf
            · exact absurd ⟨_, rfl⟩ hc
            · exact hf
          obtain ⟨rfl, rf⟩ := r.toF (W.flat_frz hf')
          exact RO.ofF (RF.thin thin _ _ hf' rf)
      refine q v G2 (upd H' d u) Os Ow s2 r2 ⟨s.apart st (List.nodup_append.mp o.1).2.1, fun a ha => ?_⟩ ⟨rfl, rfl, st⟩
      rw [g2 a (nw a ha).2]; exact o.2 a ha
    · simp only [if_neg hf] at q

/-! ### the keys of a locked dict, walked -/
def dKeys : W → Option (List W)
  | .dct false (.k l) _ => some (l.map keyW)
  | .dct false (.t l) _ => some (l.map fun k => .tup (k.map keyW))
  | _ => none
def iKeysD (m : Sm W) : Sm (List W) := Sm.bind m fun w => lft (dKeys w)
theorem walks_dk {D : Dn} {G0 : Hp} {d : Addr} {o : Obj} {l : List Key} {vs : List V} (h : G0 d = some (.frz o (.dK (l.zip vs)))) (hl : l.length = vs.length) : Walks D (Itk d o (l.zip vs)) (l.map keyW) G0 := fun i G H s0 s => by
  have hz : (l.zip vs).length = l.length := by rw [List.length_zip, ← hl, Nat.min_self]
  have hd : H d = some (.frz o (.dK (l.zip vs))) := s _ _ (s0 _ _ h)
  refine ⟨fun x hx => ?_, fun hi => ⟨hd, by rw [hz]; rw [List.length_map] at hi; exact hi⟩⟩
  have hi : i < l.length := by
    have := (List.getElem?_eq_some_iff.mp hx).1
    rwa [List.length_map] at this
  refine ⟨⟨hd, by rw [hz]; exact hi⟩, ?_⟩
  rintro v H' ⟨rfl, k, u, e, rfl⟩
  refine ⟨G, Step.refl _ _ _, s, ?_⟩
  rw [List.getElem?_map] at hx
  have e' := List.getElem?_zip_eq_some.mp e
  rw [e'.1] at hx
  cases hx
  exact key_rf k
theorem walks_dt {D : Dn} {G0 : Hp} {d : Addr} {o : Obj} {l : List (List Key)} {vs : List V} (h : G0 d = some (.frz o (.dT (l.zip vs)))) (hl : l.length = vs.length) : Walks D (Itkt d o (l.zip vs)) (l.map fun k => .tup (k.map keyW)) G0 := fun i G H s0 s => by
  have hz : (l.zip vs).length = l.length := by rw [List.length_zip, ← hl, Nat.min_self]
  have hd : H d = some (.frz o (.dT (l.zip vs))) := s _ _ (s0 _ _ h)
  refine ⟨fun x hx => ?_, fun hi => ⟨hd, by rw [hz]; rw [List.length_map] at hi; exact hi⟩⟩
  have hi : i < l.length := by
    have := (List.getElem?_eq_some_iff.mp hx).1
    rwa [List.length_map] at this
  refine ⟨⟨hd, by rw [hz]; exact hi⟩, ?_⟩
  rintro v H' ⟨rfl, k, u, b, e, rfl, hb⟩
  rw [List.getElem?_map] at hx
  have e' := List.getElem?_zip_eq_some.mp e
  rw [e'.1] at hx
  cases hx
  cases gb : G b with
  | some x =>
    have := s _ _ gb
    rw [hb] at this
    cases this
    exact ⟨G, Step.refl _ _ _, s, b, _, rfl, SqT.of gb, keys_rf k⟩
  | none =>
    refine ⟨upd G b (.tup (k.map kV)), ⟨sub_new gb, fun _ _ h _ => h, fun a x hx _ nt g => ?_, fun _ z => nomatch z⟩, fun a x hx => ?_, b, _, rfl, SqT.of upd_same, keys_rf k⟩
    · have ne : a ≠ b := fun e => by
        rw [e, hb] at hx
        cases hx
        exact nt _ rfl
      rw [upd_ne ne]; exact g
    · by_cases ea : a = b
      · subst ea; rw [upd_same] at hx; cases hx; exact hb
      · rw [upd_ne ea] at hx; exact s a x hx
theorem mi_dkeys {Z : Zt} {tg e : Expr} {m : Sm W} {p k : Bool} (he : ME Z e m p k) : MI Z tg e (iKeysD m) p := pi_imp (pi_keys he) fun σ H R q => by
  obtain ⟨env, G, Os, s, q⟩ := q
  refine ⟨env, G, Os, s, ?_⟩
  unfold iKeysD Sm.bind lft at q
  cases e1 : m env with
  | bad => rw [e1] at q; exact q
  | ex c env1 =>
    rw [e1] at q
    exact fun G' H' Os' s' t => q G' H' Os' s' t
  | ok w env1 =>
    rw [e1] at q
    intro v G' H' Os' Ow s' r o t
    cases e2 : dKeys w with
    | none => simp only [e2] at q
    | some xs =>
      simp only [e2] at q
      have hw : ∃ ks ws, w = .dct false ks ws := by
        cases w <;> first
          | cases e2
          | (rename_i b ks ws; cases b <;> first | exact ⟨_, _, rfl⟩ | cases e2)
      obtain ⟨ks, ws, rfl⟩ := hw
      obtain ⟨rfl, d, vs, rfl, h1, h2⟩ := r
      have tt := t.less (O2 := []) fun _ z => nomatch z
      cases ks with
      | k l =>
        cases e2
        obtain ⟨hl, ob, hd⟩ := h1
        exact ⟨d, ob, rfl, .inl ⟨_, s'.sub _ _ hd, q _ G' H' Os' s' tt (walks_dk hd hl)⟩⟩
      | t l =>
        cases e2
        obtain ⟨hl, ob, hd⟩ := h1
        exact ⟨d, ob, rfl, .inr ⟨_, s'.sub _ _ hd, q _ G' H' Os' s' tt (walks_dt hd hl)⟩⟩
end Ev

namespace Ev
open PySem PySem.Spec L2

/-! ### an owned thing is lent while a statement runs, and owned again behind it -/
def thinOk : W → Bool
  | .dead => true
  | .lst true ws => flats ws
  | w => w.flat
open Classical in
noncomputable def backE (i : Nat) (w0 : W) (vs : List Nat) : Nat → List W → List W → Option (List W)
  | _, [], [] => some []
  | j, w :: env, w' :: env' => match backE i w0 vs (j + 1) env env' with
    | some r => if j = i then some (w0 :: r) else if thinOk w' = true then some (w' :: r) else if j ∈ vs then some (.dead :: r) else if w = w' ∧ w'.frz = true then some (w' :: r) else none
    | none => none
  | _, _, _ => none
theorem SR.thin {D : Dn} {G' H' G2 : Hp} {w : W} {s : Option V} {O : List Addr} (thin : ∀ a xs, SqT D.K G' a xs → SqT D.K G2 a xs) (h : thinOk w = true) (r : SR D G' H' w s O) : SR D G2 H' w s O := by
  rcases r with ⟨v, rfl, r⟩ | r
  · have hc : w = .dead ∨ (∃ ws, w = .lst true ws) ∨ w.flat = true := by
      unfold thinOk at h
      split at h
      · exact .inl rfl
      · exact .inr (.inl ⟨_, rfl⟩)
      · exact .inr (.inr h)
    refine .inl ⟨v, rfl, ?_⟩
    rcases hc with rfl | ⟨ws, rfl⟩ | hf
    · exact r
    · obtain ⟨a, us, rfl, rfl, k1, k2⟩ := r
      exact ⟨a, us, rfl, rfl, k1, RFs.thin thin _ _ h k2⟩
    · obtain ⟨rfl, rf⟩ := r.toF (W.flat_frz hf)
      exact RO.ofF (RF.thin thin _ _ hf rf)
  · exact .inr r
theorem back_ok {D : Dn} {G H G' H' G2 : Hp} {i : Nat} {w0 : W} {vs : List Nat} {O : List Addr} (m2 : Sub G G2) (hk : ∀ a ∈ O, ∀ o, H a = some o → H' a = some o) (thin : ∀ a xs, SqT D.K G' a xs → SqT D.K G2 a xs) (hi : i ∉ vs) (ndO : O.Nodup) :
    ∀ (env env' e : List W) (j0 : Nat) (σ σ' : L2.St) (Os Os' : List (List Addr)), Sl D G H env σ Os → Sl D G' H' env' σ' Os' → (∀ j, j0 + j ∉ vs → σ'[j]? = σ[j]?) → (∀ j, j0 + j = i → Os[j]? = some O) → (∀ j, j0 + j = i → env[j]? = some w0) →
      backE i w0 vs j0 env env' = some e → Os'.flatten.Nodup → (∀ a ∈ O, a ∉ Os'.flatten) →
      ∃ Os2, Sl D G2 H' e σ' Os2 ∧ (∀ a ∈ Os2.flatten, a ∈ Os'.flatten ∨ (j0 ≤ i ∧ a ∈ O)) ∧ Os2.flatten.Nodup
  | [], [], e, j0, σ, σ', Os, Os', s, s', _, _, _, he, nd, dj => by
    cases he
    obtain ⟨rfl, rfl⟩ := s'
    exact ⟨[], ⟨rfl, rfl⟩, fun a ha => (nomatch ha), List.nodup_nil⟩
  | [], _ :: _, _, _, _, _, _, _, _, _, _, _, _, he, _, _ => by unfold backE at he; cases he
  | _ :: _, [], _, _, _, _, _, _, _, _, _, _, _, he, _, _ => by unfold backE at he; cases he
  | w :: env, w' :: env', e, j0, σ0, σ0', Os0, Os0', s, s', hσ, hO, hw, he, nd, dj => by
    obtain ⟨x, σ, P, Os, rfl, rfl, h1, h2⟩ := s
    obtain ⟨x', σ', P', Os', rfl, rfl, h1', h2'⟩ := s'
    rw [List.flatten_cons] at nd dj
    obtain ⟨nd1, nd2, nd3⟩ := List.nodup_append.mp nd
    unfold backE at he
    cases e1 : backE i w0 vs (j0 + 1) env env' with
    | none => rw [e1] at he; cases he
    | some r =>
      simp only [e1] at he
      obtain ⟨Os2, k1, k2, k3⟩ := back_ok m2 hk thin hi ndO env env' r (j0 + 1) σ σ' Os Os' h2 h2' (fun j hj => hσ (j + 1) (by rwa [Nat.add_assoc, Nat.add_comm 1 j] at hj)) (fun j hj => hO (j + 1) (by omega)) (fun j hj => hw (j + 1) (by omega)) e1 nd2 (fun a ha z => dj a ha (List.mem_append_right _ z))
      -- a slot that owns P2
      have fin : ∀ (w2 : W) (P2 : List Addr), SR D G2 H' w2 x' P2 → (∀ a ∈ P2, a ∈ P' ∨ (j0 = i ∧ a ∈ O)) → P2.Nodup → e = w2 :: r → ∃ Os2, Sl D G2 H' e (x' :: σ') Os2 ∧ (∀ a ∈ Os2.flatten, a ∈ (P' :: Os').flatten ∨ (j0 ≤ i ∧ a ∈ O)) ∧ Os2.flatten.Nodup := fun w2 P2 q1 q2 q3 q4 => by
        subst q4
        refine ⟨P2 :: Os2, ⟨x', σ', P2, Os2, rfl, rfl, q1, k1⟩, fun a ha => ?_, ?_⟩
        · rw [List.flatten_cons] at ha ⊢
          rcases List.mem_append.mp ha with z | z
          · rcases q2 a z with z | ⟨z, z2⟩
            · exact .inl (List.mem_append_left _ z)
            · exact .inr ⟨by omega, z2⟩
          · rcases k2 a z with z | ⟨z, z2⟩
            · exact .inl (List.mem_append_right _ z)
            · exact .inr ⟨by omega, z2⟩
        · rw [List.flatten_cons]
          refine List.nodup_append.mpr ⟨q3, k3, fun a ha b hb eab => ?_⟩
          subst eab
          rcases q2 a ha with z | ⟨z, z2⟩
          · rcases k2 a hb with y | ⟨y, y2⟩
            · exact nd3 a z a y rfl
            · exact dj a y2 (List.mem_append_left _ z)
          · rcases k2 a hb with y | ⟨y, y2⟩
            · exact dj a z2 (List.mem_append_right _ y)
            · omega
      by_cases c1 : j0 = i
      · rw [if_pos c1] at he
        have eO := hO 0 (by omega)
        have eW := hw 0 (by omega)
        have eP : P = O := Option.some.inj eO
        have eW' : w = w0 := Option.some.inj eW
        subst eP eW'
        have ex : x' = x := Option.some.inj (hσ 0 (by rw [Nat.add_zero, c1]; exact hi))
        subst ex
        exact fin w P (h1.mono m2 hk) (fun a ha => .inr ⟨c1, ha⟩) ndO (Option.some.inj he).symm
      · rw [if_neg c1] at he
        by_cases c2 : thinOk w' = true
        · rw [if_pos c2] at he
          exact fin w' P' (h1'.thin thin c2) (fun a ha => .inl ha) nd1 (Option.some.inj he).symm
        · rw [if_neg c2] at he
          by_cases c3 : j0 ∈ vs
          · rw [if_pos c3] at he
            exact fin .dead [] (.inr ⟨rfl, rfl⟩) (fun a ha => nomatch ha) List.nodup_nil (Option.some.inj he).symm
          · rw [if_neg c3] at he
            by_cases c4 : w = w' ∧ w'.frz = true
            · rw [if_pos c4] at he
              obtain ⟨rfl, hf⟩ := c4
              have ex : x' = x := Option.some.inj (hσ 0 (by rw [Nat.add_zero]; exact c3))
              subst ex
              rcases h1 with ⟨v, rfl, ro⟩ | ⟨rfl, _⟩
              · obtain ⟨_, rf⟩ := ro.toF hf
                exact fin w [] (.inl ⟨v, rfl, RO.ofF (RF.mono m2 _ _ rf)⟩) (fun a ha => nomatch ha) List.nodup_nil (Option.some.inj he).symm
              · cases hf
            · rw [if_neg c4] at he; cases he
noncomputable def sLendS (i : Nat) (vs : List Nat) (m : Sm Fl) : Sm Fl := fun env => match env[i]? with
  | some w0 => if w0.fzOk = true ∧ i ∉ vs then (match m (env.set i w0.fzD) with
    | .ok .nx env' => (match backE i w0 vs 0 env env' with
      | some e => .ok .nx e
      | none => .bad)
    | .ok (.rt w) env' => if w.flat = true then (match backE i w0 vs 0 env env' with
      | some e => .ok (.rt w) e
      | none => .bad) else .bad
    | _ => .bad) else .bad
  | none => .bad
abbrev Zt.only (Z : Zt) (vs : List Nat) : Zt := ⟨Z.X, Z.CA, Z.W, fun j => !vs.contains j⟩
theorem ms_lend {Z : Zt} {st : Stmt} {m : Sm Fl} (i : Nat) (vs : List Nat) (h : MS (Z.only vs) st m) (hio : ∀ j ∈ vs, Z.io j = false := by intro j hj; simp at hj; rcases hj with rfl | hj <;> first | rfl | (rcases hj with rfl | hj <;> first | rfl | (rcases hj with rfl | hj <;> first | rfl | (rcases hj with rfl | hj <;> first | rfl | (cases hj; rfl))))) :
    MS Z st (sLendS i vs m) := ps_imp h fun E σ H q => by
  obtain ⟨env, G, Os, s, q⟩ := q
  unfold sLendS at q
  cases e0 : env[i]? with
  | none => simp only [e0] at q; exact q.elim
  | some w0 =>
    simp only [e0] at q
    by_cases hf : w0.fzOk = true ∧ i ∉ vs
    · simp only [if_pos hf] at q
      obtain ⟨hf, hi⟩ := hf
      obtain ⟨sv, O, h1, h2, h3⟩ := s.sl.at e0
      have hd : ∃ v, sv = some v ∧ RO Z.D G H w0 v O := by
        rcases h3 with h3 | ⟨rfl, _⟩
        · exact h3
        · cases hf
      obtain ⟨v, rfl, ro⟩ := hd
      have inO : ∀ a ∈ O, a ∈ Os.flatten := fun a ha => flat_mem h2 ha
      have ndO : O.Nodup := nd_at s.nd h2
      have out : ∀ a ∈ (Os.set i []).flatten, a ∉ O := fun a ha z => onceO s.nd h2 z ha
      have g1 : ∀ a ∈ O, lentH G H O a = H a := fun a ha => lent_own ha (s.gn a (inO a ha))
      have mono : Sub G (lentH G H O) := lent_mono
      have s1 : StOk Z.D (lentH G H O) H (env.set i w0.fzD) σ (Os.set i []) := by
        refine ⟨?_, sub_lentS s.sub, fun a ha => lent_none (out a ha) (s.gn a (flat_sub a ha)), flat_nd s.nd⟩
        have s0 : Sl Z.D (lentH G H O) H (env.set i .dead) σ (Os.set i []) := (s.sl.kill1 i).mono mono fun _ _ _ h => h
        have z := Sl.set (D := Z.D) (G := lentH G H O) (H := H) (w := w0.fzD) (s := some v) (O := []) (.inl ⟨v, rfl, RO.ofF (RO.deep (S := O) w0 v O hf ro fun a ha => ⟨ha, s.gn a (inO a ha)⟩)⟩) i s0
        rw [set_self h1, List.set_set, List.set_set] at z
        exact z
      refine ⟨_, _, _, s1, ?_⟩
      -- the state behind
      have after : ∀ {e env' : List W} {σ' : L2.St} {G' H' : Hp} {Os' : List (List Addr)} {Ow : List Addr}, backE i w0 vs 0 env env' = some e → StOk Z.D G' H' env' σ' Os' → Step (lentH G H O) H (Os.set i []).flatten G' H' (Os'.flatten ++ Ow) → IoS (fun j => !vs.contains j) σ σ' → (Os'.flatten ++ Ow).Nodup → (∀ a ∈ Ow, G' a = none) →
          ∃ G2 Os2, StOk Z.D G2 H' e σ' Os2 ∧ Step G H Os.flatten G2 H' (Os2.flatten ++ Ow) ∧ IoS Z.io σ σ' ∧ (Os2.flatten ++ Ow).Nodup ∧ (∀ a ∈ Ow, G2 a = none) ∧ ∀ a xs, SqT Z.D.K G' a xs → SqT Z.D.K G2 a xs := by
        intro e env' σ' G' H' Os' Ow he s' t io nd gn
        let G2 : Hp := fun a => if a ∈ O then none else G' a
        have g2 : ∀ a, a ∉ O → G2 a = G' a := fun a h => if_neg h
        have g0 : ∀ a, a ∈ O → G2 a = none := fun a h => if_pos h
        have m2 : Sub G G2 := fun a x hx => by
          have na : a ∉ O := fun z => by rw [s.gn a (inO a z)] at hx; cases hx
          rw [g2 a na]; exact t.mono a x (mono a x hx)
        have hk : ∀ a ∈ O, ∀ o, H a = some o → H' a = some o := fun a ha o ho => s'.sub a o (t.mono a o (by rw [g1 a ha]; exact ho))
        have there : ∀ a ∈ O, ∃ o, G' a = some o ∧ H a = some o ∧ NT o ∧ ∀ ob xs, o ≠ .frz ob (.tup xs) := fun a ha => by
          obtain ⟨o, ho, nt⟩ := s.thn a (inO a ha)
          refine ⟨o, t.mono a o (by rw [g1 a ha]; exact ho), ho, nt, fun ob xs z => ?_⟩
          rw [z] at ho
          exact (s.sl.noT a (inO a ha) xs).2 ob ho
        have thin : ∀ a xs, SqT Z.D.K G' a xs → SqT Z.D.K G2 a xs := fun a xs h => by
          rcases h with (h | ⟨o', h⟩) | h
          · refine .inl (.inl ?_)
            have na : a ∉ O := fun z => by
              obtain ⟨o, k1, _, k3, _⟩ := there a z
              rw [h] at k1
              exact k3 xs (Option.some.inj k1).symm
            rw [g2 a na]; exact h
          · refine .inl (.inr ⟨o', ?_⟩)
            have na : a ∉ O := fun z => by
              obtain ⟨o, k1, _, _, k4⟩ := there a z
              rw [h] at k1
              exact k4 o' xs (Option.some.inj k1).symm
            rw [g2 a na]; exact h
          · exact .inr h
        have dj' : ∀ a ∈ O, ∀ G0 : List Addr, (∀ b ∈ G0, G' b = none) → a ∉ G0 := fun a ha G0 hg z => by
          obtain ⟨o, k1, _⟩ := there a ha
          rw [hg a z] at k1; cases k1
        obtain ⟨Os2, k1, k2, k3⟩ := back_ok (D := Z.D) (G := G) (H := H) (G' := G') (H' := H') (G2 := G2) (w0 := w0) m2 hk thin hi ndO env env' e 0 σ σ' Os Os' s.sl s'.sl (fun j hj => io j (by
          rw [Nat.zero_add] at hj
          show (!vs.contains j) = true
          rw [Bool.not_eq_true', List.contains_eq_mem, decide_eq_false_iff_not]
          exact hj)) (fun j hj => by rw [Nat.zero_add] at hj; rw [hj]; exact h2) (fun j hj => by rw [Nat.zero_add] at hj; rw [hj]; exact e0) he (List.nodup_append.mp nd).1 (fun a ha => dj' a ha _ s'.gn)
        refine ⟨G2, Os2, ⟨k1, fun a x hx => ?_, fun a ha => ?_, k3⟩, ⟨m2, fun a o h n => t.keep a o h fun z => n (flat_sub a z), fun a o h n nt g => ?_, fun a ha => ?_⟩, fun j hj => io j (by
            show (!vs.contains j) = true
            rw [Bool.not_eq_true', List.contains_eq_mem, decide_eq_false_iff_not]
            intro z
            rw [hio j z] at hj; cases hj), ?_, fun a ha => ?_, thin⟩
        · by_cases c : a ∈ O
          · rw [g0 a c] at hx; cases hx
          · rw [g2 a c] at hx; exact s'.sub a x hx
        · rcases k2 a ha with z | ⟨_, z⟩
          · by_cases c : a ∈ O
            · exact g0 a c
            · rw [g2 a c]; exact s'.gn a z
          · exact g0 a z
        · by_cases c : a ∈ O
          · exact g0 a c
          · rw [g2 a c]
            exact t.gnew a o h (fun z => n (flat_sub a z)) nt (lent_none c g)
        · rcases List.mem_append.mp ha with z | z
          · rcases k2 a z with y | ⟨_, y⟩
            · exact (t.new a (List.mem_append_left _ y)).imp (flat_sub a) id
            · exact .inl (inO a y)
          · exact (t.new a (List.mem_append_right _ z)).imp (flat_sub a) id
        · refine List.nodup_append.mpr ⟨k3, (List.nodup_append.mp nd).2.1, fun a ha b hb eab => ?_⟩
          subst eab
          rcases k2 a ha with z | ⟨_, z⟩
          · exact (List.nodup_append.mp nd).2.2 a z a hb rfl
          · exact dj' a z _ gn hb
        · by_cases c : a ∈ O
          · exact g0 a c
          · rw [g2 a c]; exact gn a ha
      cases e1 : m (env.set i w0.fzD) with
      | bad => simp only [e1] at q; exact q
      | ex c env' => simp only [e1] at q; exact q.elim
      | ok fl env' =>
        cases fl with
        | bk => simp only [e1] at q; exact q.elim
        | ct => simp only [e1] at q; exact q.elim
        | nx =>
          simp only [e1] at q
          cases e2 : backE i w0 vs 0 env env' with
          | none => simp only [e2] at q; exact q.elim
          | some e =>
            simp only [e2] at q
            intro σ' G' H' Os' s' t io
            obtain ⟨G2, Os2, k1, k2, k3, _⟩ := after (Ow := []) e2 s' (by rw [List.append_nil]; exact t) io (by rw [List.append_nil]; exact s'.nd) (fun _ z => nomatch z)
            rw [List.append_nil] at k2
            exact q σ' G2 H' Os2 k1 k2 k3
        | rt w =>
          simp only [e1] at q
          by_cases hw : w.flat = true
          · simp only [if_pos hw] at q
            cases e2 : backE i w0 vs 0 env env' with
            | none => simp only [e2] at q; exact q.elim
            | some e =>
              simp only [e2] at q
              intro v' σ' G' H' Os' Ow s' r o t io
              obtain ⟨rfl, rf⟩ := r.toF (W.flat_frz hw)
              obtain ⟨G2, Os2, k1, k2, k3, k4, k5, k6⟩ := after e2 s' t io o.1 o.2
              exact q v' σ' G2 H' Os2 [] k1 (RO.ofF (RF.thin k6 _ _ hw rf)) ⟨k4, k5⟩ k2 k3
          · simp only [if_neg hw] at q; exact q.elim
    · simp only [if_neg hf] at q; exact q.elim
end Ev

namespace Ev
open PySem PySem.Spec L2

/-! ### running the meanings of dicts -/
section
variable {env : List W}
theorem r_dnew (ks : DKs) : mDNew ks env = .ok (.dct true ks []) env := rfl
theorem r_key1 (m : Sm W) : mKey1 m env = match m env with
  | .ok w e => (match wKey w with
    | some k => .ok (.inl k) e
    | none => .bad)
  | .ex c e => .ex c e
  | .bad => .bad := by
  unfold mKey1
  rw [r_bind]
  cases m env with
  | ok w e => dsimp only; rw [r_lft]; cases wKey w <;> rfl
  | _ => rfl
theorem r_keyT (m : Sm (List W)) : mKeyT m env = match m env with
  | .ok ws e => (match keyT ws with
    | some k => .ok k e
    | none => .bad)
  | .ex c e => .ex c e
  | .bad => .bad := by
  unfold mKeyT
  rw [r_bind]
  cases m env with
  | ok w e => dsimp only; rw [r_lft]; cases keyT w <;> rfl
  | _ => rfl
theorem r_dget (g : Bool) (mo : Sm W) (mk : Sm KK) : mDGet g mo mk env = match mo env with
  | .ok w1 e1 => (match mk e1 with
    | .ok kk e2 => if (g || w1.frz) = true then (match dLook w1 kk with
      | some r => .ok r e2
      | none => .bad) else .bad
    | .ex c e' => .ex c e'
    | .bad => .bad)
  | .ex c e' => .ex c e'
  | .bad => .bad := by
  unfold mDGet
  rw [r_bind]
  cases mo env with
  | ok w1 e1 =>
    dsimp only
    rw [r_bind]
    cases mk e1 with
    | ok kk e2 =>
      dsimp only
      split
      · rw [r_lft]; cases dLook w1 kk <;> rfl
      · rfl
    | _ => rfl
  | _ => rfl
theorem r_dget2 (g : Bool) (mo : Sm W) (mk : Sm KK) (md : Sm W) : mDGet2 g mo mk md env = match mo env with
  | .ok w1 e1 => if isDW w1 = true then (match mk e1 with
    | .ok kk e2 => (match md e2 with
      | .ok w3 e3 => if (g || w1.frz) = true ∧ w3.frz = true then (match dLookD w1 kk w3 with
        | some r => .ok r e3
        | none => .bad) else .bad
      | .ex c e' => .ex c e'
      | .bad => .bad)
    | .ex c e' => .ex c e'
    | .bad => .bad) else .bad
  | .ex c e' => .ex c e'
  | .bad => .bad := by
  unfold mDGet2
  rw [r_bind]
  cases mo env with
  | ok w1 e1 =>
    dsimp only
    split
    · rw [r_bind]
      cases mk e1 with
      | ok kk e2 =>
        dsimp only
        rw [r_bind]
        cases md e2 with
        | ok w3 e3 =>
          dsimp only
          split
          · rw [r_lft]; cases dLookD w1 kk w3 <;> rfl
          · rfl
        | _ => rfl
      | _ => rfl
    · rfl
  | _ => rfl
theorem r_dput (i : Nat) (mk : Sm KK) (me : Sm W) : sDPut i mk me env = match me env with
  | .ok w e => if w.frz = true then (match e[i]? with
    | some (.dct true ks ws) => (match mk e with
      | .ok kk e2 => dPutW ks ws kk w i e2
      | _ => .bad)
    | _ => .bad) else .bad
  | .ex c e' => .ex c e'
  | .bad => .bad := by
  unfold sDPut
  rw [r_bind]
  cases me env <;> rfl
theorem r_ikeys (m : Sm W) : iKeysD m env = match m env with
  | .ok w e => (match dKeys w with
    | some x => .ok x e
    | none => .bad)
  | .ex c e => .ex c e
  | .bad => .bad := by
  unfold iKeysD
  rw [r_bind]
  cases m env with
  | ok w e => dsimp only; rw [r_lft]; cases dKeys w <;> rfl
  | _ => rfl
theorem r_lockD (i : Nat) (m : Sm W) : mLockD i m env = match env[i]? with
  | some (.dct true ks ws) => (match m (env.set i (.dct false ks ws)) with
    | .ok w _ => if flatL w = true then .ok w env else .bad
    | _ => .bad)
  | _ => .bad := rfl
end
theorem w_keyI (i : Int) : wKey (.int i) = some (.inl i) := rfl
theorem w_keyS (i : Str) : wKey (.str i) = some (.inr i) := rfl
theorem w_keyT2 (i j : Int) : keyT [.int i, .int j] = some (.inr [.inl i, .inl j]) := rfl
theorem w_lookT (b : Bool) (l : List (List Key)) (ws : List W) (k : List Key) : dLook (.dct b (.t l) ws) (.inr k) = dAt l ws k := by
  show (some (dAt l ws k)).bind id = _
  rfl
theorem w_lookK (b : Bool) (l : List Key) (ws : List W) (k : Key) : dLook (.dct b (.k l) ws) (.inl k) = dAt l ws k := by
  show (some (dAt l ws k)).bind id = _
  rfl
theorem w_lookDT (b : Bool) (l : List (List Key)) (ws : List W) (k : List Key) (x : W) : dLookD (.dct b (.t l) ws) (.inr k) x = some ((dAt l ws k).getD x) := rfl
theorem w_lookDK (b : Bool) (l : List Key) (ws : List W) (k : Key) (x : W) : dLookD (.dct b (.k l) ws) (.inl k) x = some ((dAt l ws k).getD x) := rfl
theorem w_dputT (l : List (List Key)) (ws : List W) (k : List Key) (w : W) (i : Nat) (env : List W) : dPutW (.t l) ws (.inr k) w i env = if ws.length < sizeLine then .ok .nx (env.set i (.dct true (.t (dPut l ws k w).1) (dPut l ws k w).2)) else .bad := Eq.trans rfl rfl
theorem w_dputK (l : List Key) (ws : List W) (k : Key) (w : W) (i : Nat) (env : List W) : dPutW (.k l) ws (.inl k) w i env = if ws.length < sizeLine then .ok .nx (env.set i (.dct true (.k (dPut l ws k w).1) (dPut l ws k w).2)) else .bad := Eq.trans rfl rfl
theorem w_dkeysT (l : List (List Key)) (ws : List W) : dKeys (.dct false (.t l) ws) = some (l.map fun k => .tup (k.map keyW)) := rfl
theorem w_dkeysK (l : List Key) (ws : List W) : dKeys (.dct false (.k l) ws) = some (l.map keyW) := rfl
theorem isDW_dct (b : Bool) (k : DKs) (ws : List W) : isDW (.dct b k ws) = true := rfl
theorem frz_dct (b : Bool) (k : DKs) (ws : List W) : (W.dct b k ws).frz = false := rfl

/-! ### counting in a dict -/
section
variable {κ : Type} [DecidableEq κ]
theorem dAt_map {α β : Type} (f : α → β) : ∀ (l : List κ) (vs : List α) (k : κ), dAt l (vs.map f) k = (dAt l vs k).map f
  | [], _, _ => rfl
  | a :: l, [], _ => rfl
  | a :: l, v :: vs, k => by
    rw [List.map_cons]
    unfold dAt
    by_cases e : a = k
    · rw [if_pos e, if_pos e]; rfl
    · rw [if_neg e, if_neg e, dAt_map f l vs k]
theorem dAt_fun {α : Type} (f : κ → α) : ∀ (l : List κ) (k : κ), dAt l (l.map f) k = if k ∈ l then some (f k) else none
  | [], _ => rfl
  | a :: l, k => by
    rw [List.map_cons]
    unfold dAt
    by_cases e : a = k
    · subst e; simp
    · have e' : ¬ k = a := fun z => e z.symm
      rw [if_neg e, dAt_fun f l k]
      simp [e']
theorem dSet_fun {α : Type} (f : κ → α) (x : α) : ∀ (l : List κ) (k : κ), dSet l (l.map f) k x = l.map fun y => if y = k then x else f y
  | [], _ => rfl
  | a :: l, k => by
    rw [List.map_cons, List.map_cons]
    unfold dSet
    rw [dSet_fun f x l k]
theorem dPut_fun {α : Type} (f : κ → α) (x : α) (l : List κ) (k : κ) : dPut l (l.map f) k x = ((if k ∈ l then l else l ++ [k]), (if k ∈ l then l else l ++ [k]).map fun y => if y = k then x else f y) := by
  unfold dPut
  by_cases e : k ∈ l
  · rw [if_pos e, if_pos e, dSet_fun]
  · rw [if_neg e, if_neg e]
    congr 1
    rw [List.map_append]
    congr 1
    · refine List.map_congr_left fun y hy => ?_
      rw [if_neg (fun z : y = k => e (z ▸ hy))]
    · simp
/-- how often each thing comes, in the order of the first ones -/
def uniq : List κ → List κ → List κ
  | acc, [] => acc
  | acc, k :: ks => uniq (if k ∈ acc then acc else acc ++ [k]) ks
theorem uniq_nodup : ∀ (ks acc : List κ), acc.Nodup → (uniq acc ks).Nodup
  | [], _, h => h
  | k :: ks, acc, h => by
    unfold uniq
    refine uniq_nodup ks _ ?_
    by_cases e : k ∈ acc
    · rw [if_pos e]; exact h
    · rw [if_neg e]
      exact List.nodup_append.mpr ⟨h, by simp, fun a ha b hb eab => by rw [List.mem_singleton.mp hb] at eab; exact e (eab ▸ ha)⟩
theorem uniq_mem {x : κ} : ∀ (ks acc : List κ), x ∈ uniq acc ks ↔ x ∈ acc ∨ x ∈ ks
  | [], acc => by simp [uniq]
  | k :: ks, acc => by
    unfold uniq
    rw [uniq_mem ks]
    by_cases e : k ∈ acc
    · rw [if_pos e, List.mem_cons]
      constructor
      · rintro (h | h)
        · exact .inl h
        · exact .inr (.inr h)
      · rintro (h | h | h)
        · exact .inl h
        · exact .inl (h ▸ e)
        · exact .inr h
    · rw [if_neg e, List.mem_cons, List.mem_append, List.mem_singleton, or_assoc]
theorem uniq_len : ∀ (ks acc : List κ), (uniq acc ks).length ≤ acc.length + ks.length
  | [], acc => by simp [uniq]
  | k :: ks, acc => by
    unfold uniq
    refine Nat.le_trans (uniq_len ks _) ?_
    by_cases e : k ∈ acc
    · rw [if_pos e, List.length_cons]; omega
    · rw [if_neg e, List.length_cons, List.length_append, List.length_singleton]; omega
/-- one more of k -/
theorem put_one {α : Type} (f : κ → Nat) (g : Nat → α) (l : List κ) (k : κ) (h : ∀ y, y ∈ l ↔ f y ≠ 0) :
    dPut l (l.map fun y => g (f y)) k (g (f k + 1)) = ((if k ∈ l then l else l ++ [k]), (if k ∈ l then l else l ++ [k]).map fun y => g (if y = k then f y + 1 else f y)) := by
  rw [dPut_fun]
  congr 1
  refine List.map_congr_left fun y _ => ?_
  by_cases e : y = k
  · rw [if_pos e, if_pos e, e]
  · rw [if_neg e, if_neg e]
theorem get_one {α : Type} (f : κ → Nat) (g : Nat → α) (l : List κ) (k : κ) (h : ∀ y, y ∈ l ↔ f y ≠ 0) : (dAt l (l.map fun y => g (f y)) k).getD (g 0) = g (f k) := by
  rw [dAt_fun]
  by_cases e : k ∈ l
  · rw [if_pos e]; rfl
  · rw [if_neg e]
    have z : f k = 0 := Classical.byContradiction fun z => e ((h k).mpr z)
    rw [z]; rfl
end

/-! ### sorted(d), the keys ints -/
def intKs : List Key → Option (List Int)
  | [] => some []
  | .inl i :: ks => (intKs ks).map (i :: ·)
  | _ => none
theorem intKs_eq : ∀ {ks : List Key} {is : List Int}, intKs ks = some is → ks = is.map Sum.inl
  | [], _, e => by cases e; rfl
  | .inl i :: ks, _, e => by
    unfold intKs at e
    cases e2 : intKs ks with
    | none => rw [e2] at e; cases e
    | some l =>
      rw [e2] at e
      cases e
      rw [List.map_cons, ← intKs_eq e2]
  | .inr x :: ks, _, e => by cases e
theorem intKs_of : ∀ is : List Int, intKs (is.map Sum.inl) = some is
  | [] => rfl
  | i :: is => by
    rw [List.map_cons]
    unfold intKs
    rw [intKs_of is]; rfl
def sortDW (b : Bool) : W → Option W
  | .dct _ (.k l) _ => (match intKs l with
    | some is => if is.length < 64 then some (.lst b ((is.mergeSort fun x y => decide (x ≤ y)).map W.int)) else none
    | none => none)
  | _ => none
theorem sort_uni {xs ys : List Int} (p : ys.Perm xs) (s : ys.Pairwise (· ≤ ·)) : ys = xs.mergeSort fun x y => decide (x ≤ y) := by
  have h1 : (xs.mergeSort fun x y => decide (x ≤ y)).Pairwise (· ≤ ·) := by
    have := List.pairwise_mergeSort (le := fun x y : Int => decide (x ≤ y)) (fun a b c h1 h2 => by simp at *; omega) (fun a b => by simp; omega) xs
    exact this.imp fun {a b} h => by simpa using h
  exact List.Perm.eq_of_pairwise (le := (· ≤ ·)) (fun a b _ _ h1 h2 => by omega) s h1 (p.trans (List.mergeSort_perm _ _).symm)
theorem RFs.intL {D : Dn} {G : Hp} : ∀ ns : List Int, RFs D G (ns.map W.int) (ns.map V.int)
  | [] => rfl
  | n :: ns => ⟨_, _, rfl, rfl, RFs.intL ns⟩
theorem me_sortedD {Z : Zt} {e : Expr} {m : Sm W} {p k1 : Bool} {p1 p2 : Pos} (b : Bool) (hc : Z.X.calm = true) (hm : Z.X.mg "sorted" = none) (ha : ME Z e m p k1) (hg : Gl Z.X "sorted" := by rfl) (hs : starEach [e] Z.X.env = (false, eval e Z.X.env) :: starEach [] Z.X.env := by rfl) : ME Z (.Call (.Name "sorted" p1) [e] [] p2) (mUn (sortDW b) m) p true :=
  me_b1 (fun G H w1 v1 O1 w Q s r e q => by
    have hd : ∃ c l ws, w1 = .dct c (.k l) ws := by
      cases w1 <;> first
        | cases e
        | (rename_i c ks ws; cases ks <;> first | exact ⟨_, _, _, rfl⟩ | cases e)
    obtain ⟨c, l, ws, rfl⟩ := hd
    obtain ⟨a, vs, rfl, rf, hl, rd⟩ := dct_rd s r
    unfold sortDW at e
    cases e2 : intKs l with
    | none => simp only [e2] at e; cases e
    | some is =>
      simp only [e2] at e
      by_cases h64 : is.length < 64
      · rw [if_pos h64] at e
        cases e
        refine ⟨_, call_sortedDI hc, a, _, is, rfl, rd, ?_, h64, fun ys p pm ss n => ?_⟩
        · rw [← intKs_eq e2, List.map_fst_zip (Nat.le_of_eq hl)]
        · rw [sort_uni pm ss]
          exact q.lst s (RFs.intL _) n
      · rw [if_neg h64] at e; cases e) hg hm PyProof.Rows.boot_sorted ha (by decide) (by decide) hs

/-! ### lent, and nothing changed -/
def backOk (i : Nat) (vs : List Nat) : Nat → List W → Bool
  | _, [] => true
  | j, w :: env => (j == i || thinOk w || (!vs.contains j && w.frz)) && backOk i vs (j + 1) env
theorem back_keep (i : Nat) (w0 x : W) (vs : List Nat) : ∀ (env : List W) (j : Nat), backOk i vs j env = true → backE i w0 vs j env (if j ≤ i then env.set (i - j) x else env) = some (if j ≤ i then env.set (i - j) w0 else env)
  | [], j, _ => by
    have e : ∀ y : W, (if j ≤ i then ([] : List W).set (i - j) y else []) = [] := fun y => by split <;> rfl
    rw [e, e, backE]
  | w :: env, j, h => by
    have h' : (j == i || thinOk w || (!vs.contains j && w.frz)) = true ∧ backOk i vs (j + 1) env = true := Bool.and_eq_true_iff.mp h
    obtain ⟨h1, h2⟩ := h'
    have ih := back_keep i w0 x vs env (j + 1) h2
    by_cases c : j = i
    · subst c
      rw [if_neg (by omega), if_neg (by omega)] at ih
      rw [if_pos (Nat.le_refl _), if_pos (Nat.le_refl _), Nat.sub_self, List.set_cons_zero, List.set_cons_zero, backE, ih]
      dsimp only
      rw [if_pos rfl]
    · have step : ∀ e e' : List W, backE i w0 vs (j + 1) env e = some e' → backE i w0 vs j (w :: env) (w :: e) = some (w :: e') := fun e e' hh => by
        rw [backE, hh]
        dsimp only
        rw [if_neg c]
        by_cases c2 : thinOk w = true
        · rw [if_pos c2]
        · rw [if_neg c2]
          have c1 : (j == i) = false := by simpa using c
          rw [c1, Bool.eq_false_iff.mpr c2, Bool.false_or, Bool.false_or, Bool.and_eq_true, Bool.not_eq_true', List.contains_eq_mem, decide_eq_false_iff_not] at h1
          rw [if_neg h1.1, if_pos ⟨rfl, h1.2⟩]
      by_cases c3 : j ≤ i
      · have c4 : j + 1 ≤ i := by omega
        rw [if_pos c4, if_pos c4] at ih
        rw [if_pos c3, if_pos c3, show i - j = (i - (j + 1)) + 1 by omega, List.set_cons_succ, List.set_cons_succ]
        exact step _ _ ih
      · have c4 : ¬ j + 1 ≤ i := by omega
        rw [if_neg c4, if_neg c4] at ih
        rw [if_neg c3, if_neg c3]
        exact step _ _ ih
theorem lend_keep {i : Nat} {vs : List Nat} {m : Sm Fl} {env : List W} {w0 : W} (h0 : env[i]? = some w0) (hf : w0.fzOk = true) (hi : i ∉ vs) (hm : m (env.set i w0.fzD) = .ok .nx (env.set i w0.fzD)) (hs : backOk i vs 0 env = true) : sLendS i vs m env = .ok .nx env := by
  unfold sLendS
  rw [h0]
  dsimp only
  rw [if_pos ⟨hf, hi⟩, hm]
  dsimp only
  have b := back_keep i w0 w0.fzD vs env 0 hs
  rw [if_pos (Nat.zero_le _), if_pos (Nat.zero_le _), Nat.sub_zero, set_self h0] at b
  rw [b]
end Ev

namespace Ev
open PySem PySem.Spec L2

/-! ### an owned thing is lent while an expression is worked out -/
def lstT : W → Bool
  | .lst true ws => flats ws
  | _ => false
def lstTs : List W → Bool
  | [] => true
  | w :: ws => lstT w && lstTs ws
def thinE : W → Bool
  | .nst ws => lstTs ws
  | .lst true ws => flats ws
  | w => w.flat
theorem ROs.thinT {D : Dn} {G G' H : Hp} (thin : ∀ a xs, SqT D.K G a xs → SqT D.K G' a xs) : ∀ (ws : List W) (vs : List V) (O : List Addr), lstTs ws = true → ROs D G H ws vs O → ROs D G' H ws vs O
  | [], _, _, _, r => r
  | w :: ws, _, _, h, r => by
    obtain ⟨v, u, O1, O2, rfl, rfl, h1, h2⟩ := r
    have h' : lstT w = true ∧ lstTs ws = true := Bool.and_eq_true_iff.mp h
    refine ⟨v, u, O1, O2, rfl, rfl, ?_, ROs.thinT thin ws u O2 h'.2 h2⟩
    have hw : ∃ xs, w = .lst true xs ∧ flats xs = true := by
      have hl := h'.1
      unfold lstT at hl
      split at hl
      · exact ⟨_, rfl, hl⟩
      · cases hl
    obtain ⟨xs, rfl, hf⟩ := hw
    obtain ⟨a, us, rfl, rfl, k1, k2⟩ := h1
    exact ⟨a, us, rfl, rfl, k1, RFs.thin thin _ _ hf k2⟩
theorem RO.thinE {D : Dn} {G G' H : Hp} (thin : ∀ a xs, SqT D.K G a xs → SqT D.K G' a xs) {w : W} {v : V} {O : List Addr} (h : thinE w = true) (r : RO D G H w v O) : RO D G' H w v O := by
  have hc : (∃ ws, w = .nst ws ∧ lstTs ws = true) ∨ (∃ ws, w = .lst true ws ∧ flats ws = true) ∨ w.flat = true := by
    unfold Ev.thinE at h
    split at h
    · exact .inl ⟨_, rfl, h⟩
    · exact .inr (.inl ⟨_, rfl, h⟩)
    · exact .inr (.inr h)
  rcases hc with ⟨ws, rfl, hf⟩ | ⟨ws, rfl, hf⟩ | hf
  · obtain ⟨a, us, O', rfl, rfl, k1, k2⟩ := r
    exact ⟨a, us, O', rfl, rfl, k1, ROs.thinT thin _ _ _ hf k2⟩
  · obtain ⟨a, us, rfl, rfl, k1, k2⟩ := r
    exact ⟨a, us, rfl, rfl, k1, RFs.thin thin _ _ hf k2⟩
  · obtain ⟨rfl, rf⟩ := r.toF (W.flat_frz hf)
    exact RO.ofF (RF.thin thin _ _ hf rf)
def mLendE (i : Nat) (m : Sm W) : Sm W := fun env => match env[i]? with
  | some w0 => if w0.fzOk = true then (match m (env.set i w0.fzD) with
    | .ok w _ => if thinE w = true then .ok w env else .bad
    | _ => .bad) else .bad
  | none => .bad
theorem r_lendE {env : List W} (i : Nat) (m : Sm W) : mLendE i m env = match env[i]? with
  | some w0 => if w0.fzOk = true then (match m (env.set i w0.fzD) with
    | .ok w _ => if thinE w = true then .ok w env else .bad
    | _ => .bad) else .bad
  | none => .bad := rfl
theorem tx_lendE {D : Dn} {Wx : WX} {i : Nat} {m : Sm W} {σ : L2.St} {H : Hp} {Q : VK} (q : TX D Wx true true (mLendE i m) σ H Q) : TX D Wx true true m σ H Q := by
  obtain ⟨env, G, Os, s, q⟩ := q
  unfold mLendE at q
  cases e0 : env[i]? with
  | none => simp only [e0] at q
  | some w0 =>
    simp only [e0] at q
    by_cases hf : w0.fzOk = true
    · simp only [if_pos hf] at q
      obtain ⟨sv, O, h1, h2, h3⟩ := s.sl.at e0
      have hd : ∃ v, sv = some v ∧ RO D G H w0 v O := by
        rcases h3 with h3 | ⟨rfl, _⟩
        · exact h3
        · cases hf
      obtain ⟨v, rfl, ro⟩ := hd
      have inO : ∀ a ∈ O, a ∈ Os.flatten := fun a ha => flat_mem h2 ha
      have out : ∀ a ∈ (Os.set i []).flatten, a ∉ O := fun a ha z => onceO s.nd h2 z ha
      have g1 : ∀ a ∈ O, lentH G H O a = H a := fun a ha => lent_own ha (s.gn a (inO a ha))
      have mono : Sub G (lentH G H O) := lent_mono
      have s1 : StOk D (lentH G H O) H (env.set i w0.fzD) σ (Os.set i []) := by
        refine ⟨?_, sub_lentS s.sub, fun a ha => lent_none (out a ha) (s.gn a (flat_sub a ha)), flat_nd s.nd⟩
        have s0 : Sl D (lentH G H O) H (env.set i .dead) σ (Os.set i []) := (s.sl.kill1 i).mono mono fun _ _ _ h => h
        have z := Sl.set (D := D) (G := lentH G H O) (H := H) (w := w0.fzD) (s := some v) (O := []) (.inl ⟨v, rfl, RO.ofF (RO.deep (S := O) w0 v O hf ro fun a ha => ⟨ha, s.gn a (inO a ha)⟩)⟩) i s0
        rw [set_self h1, List.set_set, List.set_set] at z
        exact z
      refine ⟨_, _, _, s1, ?_⟩
      cases e1 : m (env.set i w0.fzD) with
      | bad => simp only [e1] at q
      | ex c env' => simp only [e1] at q
      | ok w env' =>
        simp only [e1] at q
        intro v' G' H' Os' Ow s' r o t
        obtain ⟨rfl, rfl, t⟩ := t
        by_cases hw : Ev.thinE w = true
        · simp only [if_pos hw] at q
          let G2 : Hp := fun a => if a ∈ O then none else G' a
          have g2 : ∀ a, a ∉ O → G2 a = G' a := fun a h => if_neg h
          have g0 : ∀ a, a ∈ O → G2 a = none := fun a h => if_pos h
          have sub2 : Sub G2 H' := fun a x hx => by
            by_cases c : a ∈ O
            · rw [g0 a c] at hx; cases hx
            · rw [g2 a c] at hx; exact s'.sub a x hx
          have st : Step G H [] G2 H' Ow := by
            refine ⟨fun a x hx => ?_, t.keep, fun a x hx hn nt hg => ?_, t.new⟩
            · have na : a ∉ O := fun z => by rw [s.gn a (inO a z)] at hx; cases hx
              rw [g2 a na]; exact t.mono a x (mono a x hx)
            · by_cases c : a ∈ O
              · exact g0 a c
              · rw [g2 a c]; exact t.gnew a x hx hn nt (lent_none c hg)
          have there : ∀ a ∈ O, ∃ o, G' a = some o ∧ H a = some o ∧ NT o ∧ ∀ ob xs, o ≠ .frz ob (.tup xs) := fun a ha => by
            obtain ⟨o, ho, nt⟩ := s.thn a (inO a ha)
            refine ⟨o, t.mono a o (by rw [g1 a ha]; exact ho), ho, nt, fun ob xs z => ?_⟩
            rw [z] at ho
            exact (s.sl.noT a (inO a ha) xs).2 ob ho
          have thin : ∀ a xs, SqT D.K G' a xs → SqT D.K G2 a xs := fun a xs h => by
            rcases h with (h | ⟨o', h⟩) | h
            · refine .inl (.inl ?_)
              have na : a ∉ O := fun z => by
                obtain ⟨o, k1, _, k3, _⟩ := there a z
                rw [h] at k1
                exact k3 xs (Option.some.inj k1).symm
              rw [g2 a na]; exact h
            · refine .inl (.inr ⟨o', ?_⟩)
              have na : a ∉ O := fun z => by
                obtain ⟨o, k1, _, _, k4⟩ := there a z
                rw [h] at k1
                exact k4 o' xs (Option.some.inj k1).symm
              rw [g2 a na]; exact h
            · exact .inr h
          have s2 : StOk D G2 H' env σ Os := s.step (st.less (O2 := []) fun _ z => nomatch z) sub2
          refine q v' G2 H' Os Ow s2 (RO.thinE thin hw r) ⟨s.apart st (List.nodup_append.mp o.1).2.1, fun a ha => ?_⟩ ⟨rfl, rfl, st⟩
          by_cases c : a ∈ O
          · exact g0 a c
          · rw [g2 a c]; exact o.2 a ha
        · simp only [if_neg hw] at q
    · simp only [if_neg hf] at q
theorem me_lendE {Z : Zt} {e : Expr} (i : Nat) {m : Sm W} (h : ME Z e m true true) : ME Z e (mLendE i m) true true := pe_imp h fun _ _ _ q => tx_lendE q
/-- a name is given a list of new lists, made of what is lent -/
theorem ms_setLcL {Z : Zt} {i : Nat} (j : Nat) {y : Str} {py : Pos} {elt tg iter : Expr} {ifs : List Expr} {scope : Scope} {own : List (Str × Nat)} {pos spos : Pos} {f : Tg} {mt : Sm Bool} {me : Sm W} {mi : Sm (List W)} (hc : Z.X.calm = true) (hN : Z.X.N.Nodup) (hi : MI Z tg iter mi true) (ok : BlkOk Z.X.N Z.X.env.scope scope own)
    (hg : ∀ (s : Shared) (H : Hp) (C : Addr) (cl : List (Str × Addr)) (fp : List Addr), MG (Z.blk s H scope C cl fp (own.map (·.2))) tg f) (ht : ∀ (s : Shared) (H : Hp) (C : Addr) (cl : List (Str × Addr)) (fp : List Addr), MTs (Z.blk s H scope C cl fp (own.map (·.2))) ifs mt true)
    (he : ∀ (s : Shared) (H : Hp) (C : Addr) (cl : List (Str × Addr)) (fp : List Addr), ME (Z.blk s H scope C cl fp (own.map (·.2))) elt me true true)
    (hy : Z.X.N[i]? = some y := by rfl) (hyl : Z.X.env.scope.names.lookup y = some .local := by rfl) (hio : Z.io i = false := by rfl)
    (hsw : swapsWith (.ListComp elt [⟨tg, iter, ifs, 0⟩] scope pos) (some (.Name y py)) spos.line Z.X.env = pure true := by exact sw_true rfl rfl rfl (by decide +kernel)) (hs : ∀ x, foldedSetIterable iter Z.X.env x = pure x := by intro _; rfl) :
    MS Z (.Assign [.Name y py] (.ListComp elt [⟨tg, iter, ifs, 0⟩] scope pos) spos) (sSet i true (mLendE j (mCompN f mt me (own.map (·.2)) mi))) := by
  have core := ps_setLc (X := Z.X) (i := i) (py := py) (spos := spos) (pos := pos) (g := TGx Z.D (ioB (own.map (·.2))) f) (tt := TT' Z.D W0 true mt) (te := TX Z.D W0 true true me) hc hN hy hyl hsw hi ok hg ht he hs
  refine ⟨fun pins sh σ H D I q => ?_⟩
  have hlen := I.len
  refine core.run pins sh σ H D I ?_
  have fin : ∀ {m : Sm W}, TSx Z.D Z.W Z.io (sSet i true m) D σ H → TX Z.D Z.W true true m σ H fun v H' => D.nx (σ.set i (some v)) H' := by
    intro m q
    obtain ⟨env, G, Os, s, q⟩ := q
    refine ⟨env, G, Os, s, ?_⟩
    unfold sSet Sm.bind at q
    cases e : m env with
    | bad => rw [e] at q; exact q
    | ex c env1 =>
      rw [e] at q
      exact fun G' H' Os' s' t => q σ G' H' Os' s' t.st (IoS.refl _)
    | ok w env1 =>
      rw [e] at q
      intro v G' H' Os' Ow s' r o t
      simp only [Bool.true_or, if_true] at q
      obtain ⟨s2, inn⟩ := s'.put i (by rw [hlen]; exact (List.getElem?_eq_some_iff.mp hy).1) r o
      exact q (σ.set i (some v)) G' H' (Os'.set i Ow) s2 (t.gen.less inn) (IoS.set hio)
  exact tx_lcN (Q := fun v H' => D.nx (σ.set i (some v)) H') (tx_lendE (fin q))

def BackOk (i : Nat) (vs : List Nat) : Nat → List W → List W → Prop
  | _, [], [] => True
  | j, w :: env, w' :: env' => (j = i ∨ thinOk w' = true ∨ (j ∉ vs ∧ w = w' ∧ w'.frz = true)) ∧ BackOk i vs (j + 1) env env'
  | _, _, _ => False
theorem back_gen (i : Nat) (w0 : W) (vs : List Nat) : ∀ (env env' : List W) (j : Nat), BackOk i vs j env env' → backE i w0 vs j env env' = some (if j ≤ i then env'.set (i - j) w0 else env')
  | [], [], j, _ => by
    rw [backE]
    split <;> rfl
  | [], _ :: _, _, h => h.elim
  | _ :: _, [], _, h => h.elim
  | w :: env, w' :: env', j, h => by
    obtain ⟨h1, h2⟩ := h
    have ih := back_gen i w0 vs env env' (j + 1) h2
    rw [backE, ih]
    dsimp only
    by_cases c : j = i
    · subst c
      rw [if_pos rfl, if_neg (by omega), if_pos (Nat.le_refl _), Nat.sub_self, List.set_cons_zero]
    · rw [if_neg c]
      have e : (if j ≤ i then (w' :: env').set (i - j) w0 else w' :: env') = w' :: (if j + 1 ≤ i then env'.set (i - (j + 1)) w0 else env') := by
        by_cases c3 : j ≤ i
        · rw [if_pos c3, if_pos (by omega), show i - j = (i - (j + 1)) + 1 by omega, List.set_cons_succ]
        · rw [if_neg c3, if_neg (by omega)]
      rw [e]
      by_cases c2 : thinOk w' = true
      · rw [if_pos c2]
      · rw [if_neg c2]
        obtain ⟨a1, a2, a3⟩ := (h1.resolve_left c).resolve_left c2
        rw [if_neg a1, if_pos ⟨a2, a3⟩]
theorem lend_gen {i : Nat} {vs : List Nat} {m : Sm Fl} {env env' : List W} {w0 : W} (h0 : env[i]? = some w0) (hf : w0.fzOk = true) (hi : i ∉ vs) (hm : m (env.set i w0.fzD) = .ok .nx env') (hs : BackOk i vs 0 env env') : sLendS i vs m env = .ok .nx (env'.set i w0) := by
  unfold sLendS
  rw [h0]
  dsimp only
  rw [if_pos ⟨hf, hi⟩, hm]
  dsimp only
  rw [back_gen i w0 vs env env' 0 hs, if_pos (Nat.zero_le _), Nat.sub_zero]

def BackTo (i : Nat) (w0 : W) (vs : List Nat) : Nat → List W → List W → List W → Prop
  | _, [], [], [] => True
  | j, w :: env, w' :: env', x :: e => ((j = i ∧ x = w0) ∨ (j ≠ i ∧ thinOk w' = true ∧ x = w') ∨ (j ≠ i ∧ thinOk w' = false ∧ j ∈ vs ∧ x = .dead) ∨ (j ≠ i ∧ thinOk w' = false ∧ j ∉ vs ∧ w = w' ∧ w'.frz = true ∧ x = w')) ∧ BackTo i w0 vs (j + 1) env env' e
  | _, _, _, _ => False
theorem back_to (i : Nat) (w0 : W) (vs : List Nat) : ∀ (env env' e : List W) (j : Nat), BackTo i w0 vs j env env' e → backE i w0 vs j env env' = some e
  | [], [], [], j, _ => by rw [backE]
  | w :: env, w' :: env', x :: e, j, h => by
    obtain ⟨h1, h2⟩ := h
    rw [backE, back_to i w0 vs env env' e (j + 1) h2]
    dsimp only
    rcases h1 with ⟨a, b⟩ | ⟨a, b, c⟩ | ⟨a, b, c, d⟩ | ⟨a, b, c, d, f, g⟩
    · rw [if_pos a, b]
    · rw [if_neg a, if_pos b, c]
    · rw [if_neg a, if_neg (by rw [b]; exact Bool.false_ne_true), if_pos c, d]
    · rw [if_neg a, if_neg (by rw [b]; exact Bool.false_ne_true), if_neg c, if_pos ⟨d, f⟩, g]
  | [], [], _ :: _, _, h => h.elim
  | [], _ :: _, _, _, h => h.elim
  | _ :: _, [], _, _, h => h.elim
  | _ :: _, _ :: _, [], _, h => h.elim
theorem lend_to {i : Nat} {vs : List Nat} {m : Sm Fl} {env env' e : List W} {w0 : W} (h0 : env[i]? = some w0) (hf : w0.fzOk = true) (hi : i ∉ vs) (hm : m (env.set i w0.fzD) = .ok .nx env') (hs : BackTo i w0 vs 0 env env' e) : sLendS i vs m env = .ok .nx e := by
  unfold sLendS
  rw [h0]
  dsimp only
  rw [if_pos ⟨hf, hi⟩, hm]
  dsimp only
  rw [back_to i w0 vs env env' e 0 hs]
end Ev

namespace Ev
open PySem PySem.Spec L2

/-! ### list(range(a, b)) -/
open Classical in
noncomputable def rgW (b : Bool) : W → W → Option W
  | .int i, .int j => if RgOk i j then some (.lst b (rngL i (j - i).toNat)) else none
  | _, _ => none
theorem w_rgW (b : Bool) (i j : Int) (h : RgOk i j) : rgW b (.int i) (.int j) = some (.lst b (rngL i (j - i).toNat)) := by
  simp only [rgW, if_pos h]
theorem rngL_rf {D : Dn} {G : Hp} (i : Int) (n : Nat) : RFs D G (rngL i n) ((List.range n).map fun k => V.int (i + (k : Nat))) := by
  have key : ∀ l : List Nat, RFs D G (l.map fun k : Nat => W.int (i + (k : Int))) (l.map fun k => V.int (i + (k : Nat))) := by
    intro l
    induction l with
    | nil => rfl
    | cons a l ih => exact ⟨_, _, rfl, rfl, ih⟩
  exact key _
theorem me_listRg2 {Z : Zt} {a b : Expr} {m1 m2 : Sm W} {p1 p2 k1 k2 : Bool} {q1 q2 q3 q4 : Pos} (o : Bool) (hc : Z.X.calm = true) (hm : Z.X.mg "list" = none) (hmr : Z.X.mg "range" = none) (ha : ME Z a m1 p1 k1) (hb : ME Z b m2 p2 k2) (hg : Gl Z.X "list" := by rfl) (hgr : Gl Z.X "range" := by rfl)
    (na : starEach [a, b] Z.X.env = (false, eval a Z.X.env) :: starEach [b] Z.X.env := by rfl) (nb : starEach [b] Z.X.env = (false, eval b Z.X.env) :: starEach [] Z.X.env := by rfl) (hp : (backTo q2 (starEach [b] Z.X.env)).any (·.1) = false := by rfl)
    (nc : starEach [.Call (.Name "range" q1) [a, b] [] q2] Z.X.env = (false, eval (.Call (.Name "range" q1) [a, b] [] q2) Z.X.env) :: starEach [] Z.X.env := by rfl) :
    ME Z (.Call (.Name "list" q3) [.Call (.Name "range" q1) [a, b] [] q2] [] q4) (mBin (rgW o) (k1 || p2) m1 m2) (p1 && p2) true :=
  pe_imp (pe_listRg hc hg hm (prg_2 hgr hmr ha hb na nb hp) nc) fun σ H Q q =>
    tx_bin (r := fun x y H Q => ∃ i j, x = .int i ∧ y = .int j ∧ (RgOk i j ∧ ∀ p, H p = none → Q (.ref p) (upd H p (.lst (rgV i j))))) (fun G H w1 w2 v1 v2 O1 O2 w Q s r1 r2 e q => by
      have hi : ∃ i j, w1 = .int i ∧ w2 = .int j := by
        cases w1 <;> first
          | cases e
          | (cases w2 <;> first | cases e | exact ⟨_, _, rfl, rfl⟩)
      obtain ⟨i, j, rfl, rfl⟩ := hi
      by_cases h : RgOk i j
      · simp only [rgW, if_pos h] at e
        cases e
        obtain ⟨_, rfl⟩ := r1
        obtain ⟨_, rfl⟩ := r2
        exact ⟨i, j, rfl, rfl, h, fun p n => q.lst s (rngL_rf i _) n⟩
      · simp only [rgW, if_neg h] at e; cases e) q

/-! ### x[1:] of a tuple, as a key -/
def cutK : W → Option KK
  | .tup (_ :: k :: ks) => keyT (k :: ks)
  | _ => none
def mKeyCut (m : Sm W) : Sm KK := Sm.bind m fun w => lft (cutK w)
theorem r_keyCut {env : List W} (m : Sm W) : mKeyCut m env = match m env with
  | .ok w e => (match cutK w with
    | some k => .ok k e
    | none => .bad)
  | .ex c e => .ex c e
  | .bad => .bad := by
  unfold mKeyCut
  rw [r_bind]
  cases m env with
  | ok w e => dsimp only; rw [r_lft]; cases cutK w <;> rfl
  | _ => rfl
theorem mk_cut {Z : Zt} {e : Expr} {m : Sm W} {p k1 : Bool} {j : Nat} {q0 q1 q2 : Pos} (he : ME Z e m p k1) : MK Z (.Subscript e (.Slice (some (.Constant (.int 1) j q0)) none none q1) q2) (mKeyCut m) p :=
  pe_imp (pe_slice sl_tup he (mo_some (me_int (i := 1))) mo_no) fun σ H Q q => by
    obtain ⟨env, G, Os, s, q⟩ := q
    refine ⟨env, G, Os, s, ?_⟩
    unfold mKeyCut Sm.bind lft at q
    cases e1 : m env with
    | bad => rw [e1] at q; exact q
    | ex c env1 => rw [e1] at q; exact q
    | ok w env1 =>
      rw [e1] at q
      intro v G1 H1 Os1 O1 s1 r1 o1 t1
      cases e2 : cutK w with
      | none => simp only [e2] at q
      | some kk =>
        simp only [e2] at q
        have hw : ∃ w0 k ks, w = .tup (w0 :: k :: ks) := by
          unfold cutK at e2
          split at e2
          · exact ⟨_, _, _, rfl⟩
          · cases e2
        obtain ⟨w0, k, ks, rfl⟩ := hw
        have e3 : keyT (k :: ks) = some kk := e2
        obtain ⟨rfl, rf⟩ := r1.toF rfl
        refine ⟨env1, G1, Os1, s1, ?_⟩
        show ∀ G' H' Os', StOk Z.D G' H' env1 σ Os' → Stp true env1 G1 H1 Os1 env1 G' H' Os' [] → _
        intro G2 H2 Os2 s2 t2
        refine ⟨env1, G2, Os2, s2, ?_⟩
        show ∀ G' H' Os', StOk Z.D G' H' env1 σ Os' → Stp true env1 G2 H2 Os2 env1 G' H' Os' [] → _
        intro G3 H3 Os3 s3 t3
        have rf3 := RF.mono (t2.trans t3).gen.mono _ _ rf
        obtain ⟨a, vs, rfl, sq, rs⟩ := rf3
        obtain ⟨v0, us, rfl, _, ru⟩ := rs
        unfold keyT at e3
        by_cases hl : (k :: ks).length ≤ 15
        · rw [if_pos hl] at e3
          cases e4 : wKeys (k :: ks) with
          | none => rw [e4] at e3; cases e3
          | some l =>
            rw [e4] at e3
            cases e3
            have eu := ru.keys e4
            have lu := ru.len
            have h1 : HT.sIx (v0 :: us).length 0 (some 1) = 1 := by
              have := HT.sIx_nat (v0 :: us).length 0 1
              rw [show ((1 : Nat) : Int) = 1 from rfl] at this
              rw [this]
              rw [List.length_cons]
              omega
            have h2 : HT.sIx (v0 :: us).length (v0 :: us).length none = (v0 :: us).length := HT.sIx_none _ _
            have ec : cutV (v0 :: us) (some 1) none = us := by
              unfold cutV
              rw [h1, h2, List.drop_succ_cons, List.drop_zero, List.length_cons, Nat.add_sub_cancel, List.take_length]
            refine ⟨a, v0 :: us, rfl, s3.sub.sqT sq, fun z => by rw [h1] at z; omega, fun b n => ?_⟩
            rw [ec, eu]
            have st := step_frz (o := .tup (l.map kV)) s3.sub n
            refine q (.ref b) _ _ Os3 (s3.step st (sub_upd2 s3.sub)) ⟨b, rfl, upd_same⟩ ?_
            have z := ((t1.less kO_less).trans (t2.trans t3)).trans (Stp.grow true (env := env1) (Os := Os3) st)
            rw [Bool.and_true, Bool.and_true, Bool.and_true] at z
            exact z
        · rw [if_neg hl] at e3; cases e3
end Ev

namespace Ev
open PySem PySem.Spec L2
/-! ### methods of texts -/
def tyStr : W → Bool
  | .str _ => true
  | _ => false
theorem tyM_str {D : Dn} : TyM D "str" tyStr := fun G H w v O s r e => by
  cases w with
  | str x =>
    obtain ⟨_, rfl⟩ := r
    exact rfl
  | _ => cases e
def strsW : List W → Option (List Str)
  | [] => some []
  | .str i :: ws => (strsW ws).map (i :: ·)
  | _ :: _ => none
theorem strsW_map : ∀ ns : List Str, strsW (ns.map W.str) = some ns
  | [] => rfl
  | n :: ns => by rw [List.map_cons, strsW, strsW_map ns]; rfl
theorem strsW_eq : ∀ {ws : List W} {ns : List Str}, strsW ws = some ns → ws = ns.map W.str
  | [], ns, h => by cases h; rfl
  | .str i :: ws, ns, h => by
    rw [strsW] at h
    cases e : strsW ws with
    | none => rw [e] at h; cases h
    | some ms =>
      rw [e] at h
      have h' : i :: ms = ns := Option.some.inj h
      rw [← h', List.map_cons, strsW_eq e]
theorem RFs.strs {D : Dn} {G : Hp} : ∀ {ns : List Str} {vs : List V}, RFs D G (ns.map W.str) vs → vs = ns.map V.str
  | [], _, h => h
  | n :: ns, _, h => by
    obtain ⟨v, r, rfl, h1, h2⟩ := h
    rw [List.map_cons, RFs.strs h2, show v = .str n from h1]
theorem RFs.ofStrs {D : Dn} {G : Hp} : ∀ ns : List Str, RFs D G (ns.map W.str) (ns.map V.str)
  | [] => rfl
  | n :: ns => ⟨.str n, _, rfl, rfl, RFs.ofStrs ns⟩
def jnOk (a : Str) (ys : List Str) : Prop := (ys.map (·.length)).sum + ys.length * a.length ≤ 16777216
noncomputable instance {a : Str} {ys : List Str} : Decidable (jnOk a ys) := Classical.propDecidable _
def spOk (a b : Str) : Prop := (b.length == 0) = false ∧ a.length + 2 ≤ sizeLine
noncomputable instance {a b : Str} : Decidable (spOk a b) := Classical.propDecidable _
def spkOk (a b : Str) (k : Int) : Prop := (b.length == 0) = false ∧ -(2 ^ 63) ≤ k ∧ k < 2 ^ 63 ∧ a.length + 2 ≤ sizeLine
noncomputable instance {a b : Str} {k : Int} : Decidable (spkOk a b k) := Classical.propDecidable _
noncomputable def joinW : W → List W → Option W
  | .str a, [w] => (seqW w).bind fun ws => (strsW ws).bind fun ys => if jnOk a ys then some (.str (Txt.join a ys)) else none
  | _, _ => none
noncomputable def splitW (b : Bool) : W → List W → Option W
  | .str a, [.str s] => if spOk a s then some (.lst b ((Txt.split a s).map W.str)) else none
  | .str a, [.str s, .int k] => if spkOk a s k then some (.lst b ((Txt.splitMax a s k).map W.str)) else none
  | _, _ => none
noncomputable def partW : W → List W → Option W
  | .str a, [.str s] => if spOk a s then some (.tup [.str (Txt.partition a s).1, .str (Txt.partition a s).2.1, .str (Txt.partition a s).2.2]) else none
  | _, _ => none
abbrev rJoin (X : Cx) : V → List V → Hp → VK → Prop := fun x xs H Q => ∃ a p, ∃ ys : List Str, x = .str a ∧ xs = [.ref p] ∧ (SqL X.K H p (ys.map V.str) ∨ SqT X.K H p (ys.map V.str)) ∧ (ys.map (·.length)).sum + ys.length * a.length ≤ 16777216 ∧ Q (.str (Txt.join a ys)) H
abbrev rSpl : V → List V → Hp → VK → Prop := fun x xs H Q => ∃ a b, x = .str a ∧ xs = [.str b] ∧ (b.length == 0) = false ∧ a.length + 2 ≤ sizeLine ∧ rNewStrs (Txt.split a b) H Q
abbrev rSplM : V → List V → Hp → VK → Prop := fun x xs H Q => ∃ (a b : Str) (k : Int), x = .str a ∧ xs = [.str b, .int k] ∧ (b.length == 0) = false ∧ -(2 ^ 63) ≤ k ∧ k < 2 ^ 63 ∧ a.length + 2 ≤ sizeLine ∧ rNewStrs (Txt.splitMax a b k) H Q
abbrev rPart : V → List V → Hp → VK → Prop := fun x xs H Q => ∃ a b, x = .str a ∧ xs = [.str b] ∧ (b.length == 0) = false ∧ a.length ≤ sizeLine ∧ ∀ p, H p = none → Q (.ref p) (upd H p (.tup [.str (Txt.partition a b).1, .str (Txt.partition a b).2.1, .str (Txt.partition a b).2.2]))
theorem rel_join {Z : Zt} : RelM Z.D (rJoin Z.X) joinW := fun G H w1 ws v1 vs O1 w Q s r1 r2 e q => by
  unfold joinW at e
  split at e
  · rename_i a w2
    obtain ⟨_, rfl⟩ := r1
    obtain ⟨v, r, rfl, h1, h2⟩ := r2
    obtain rfl : r = [] := h2
    cases h : seqW w2 with
    | none => rw [h] at e; cases e
    | some us =>
      cases h2 : strsW us with
      | none => rw [h, Option.bind_some, h2] at e; cases e
      | some ys =>
        rw [h, Option.bind_some, h2, Option.bind_some] at e
        by_cases hj : jnOk a ys
        · rw [if_pos hj] at e
          cases e
          obtain ⟨p, zs, rfl, h3, h4⟩ := seqW_at s (RO.ofF (H := H) h1) h
          rw [strsW_eq h2] at h4
          rw [RFs.strs h4] at h3
          exact ⟨a, p, ys, rfl, rfl, h3, hj, q.str s⟩
        · rw [if_neg hj] at e; cases e
  · cases e
theorem rel_split {Z : Zt} {b : Bool} : RelM Z.D rSpl (fun w ws => match ws with | [x] => splitW b w [x] | _ => none) := fun G H w1 ws v1 vs O1 w Q s r1 r2 e q => by
  cases ws with
  | nil => cases e
  | cons x ws =>
    cases ws with
    | cons _ _ => cases e
    | nil =>
      dsimp only at e
      unfold splitW at e
      split at e
      · rename_i a y e1
        cases e1
        obtain ⟨_, rfl⟩ := r1
        obtain ⟨v, r, rfl, h1, h2⟩ := r2
        obtain rfl : r = [] := h2
        by_cases hj : spOk a y
        · rw [if_pos hj] at e
          cases e
          refine ⟨a, y, rfl, ?_, hj.1, hj.2, fun p n => q.lst s (RFs.ofStrs _) n⟩
          rw [show v = .str y from h1]
        · rw [if_neg hj] at e; cases e
      · rename_i e1; cases e1
      · cases e
theorem rel_splitM {Z : Zt} {b : Bool} : RelM Z.D rSplM (fun w ws => match ws with | [x, y] => splitW b w [x, y] | _ => none) := fun G H w1 ws v1 vs O1 w Q s r1 r2 e q => by
  cases ws with
  | nil => cases e
  | cons x ws =>
    cases ws with
    | nil => cases e
    | cons x2 ws =>
      cases ws with
      | cons _ _ => cases e
      | nil =>
        dsimp only at e
        unfold splitW at e
        split at e
        · rename_i e1; cases e1
        · rename_i a y k e1
          cases e1
          obtain ⟨_, rfl⟩ := r1
          obtain ⟨v, r, rfl, h1, v2, r2, rfl, h2, h3⟩ := r2
          obtain rfl : r2 = [] := h3
          by_cases hj : spkOk a y k
          · rw [if_pos hj] at e
            cases e
            refine ⟨a, y, k, rfl, ?_, hj.1, hj.2.1, hj.2.2.1, hj.2.2.2, fun p n => q.lst s (RFs.ofStrs _) n⟩
            rw [show v = .str y from h1, show v2 = .int k from h2]
          · rw [if_neg hj] at e; cases e
        · cases e
theorem rel_part {Z : Zt} : RelM Z.D rPart partW := fun G H w1 ws v1 vs O1 w Q s r1 r2 e q => by
  unfold partW at e
  split at e
  · rename_i a y
    obtain ⟨_, rfl⟩ := r1
    obtain ⟨v, r, rfl, h1, h2⟩ := r2
    obtain rfl : r = [] := h2
    by_cases hj : spOk a y
    · rw [if_pos hj] at e
      cases e
      refine ⟨a, y, rfl, ?_, hj.1, Nat.le_trans (Nat.le_add_right _ _) hj.2, fun p n => q.tup s ?_ n⟩
      · rw [show v = .str y from h1]
      · exact ⟨_, _, rfl, rfl, _, _, rfl, rfl, _, _, rfl, rfl, rfl⟩
    · rw [if_neg hj] at e; cases e
  · cases e
section
variable {Z : Zt} {o e e2 : Expr} {m : Sm W} {ma : Sm (List W)} {p1 p2 k1 : Bool} {apos cpos : Pos}
theorem me_join (ho : ME Z o m p1 k1) (ha : MA Z [e] ma p2)
    (hbase : attributeBase o "join" Z.X.env (eval o Z.X.env) = eval o Z.X.env := by rfl)
    (hfew : ((backTo cpos (starEach [e] Z.X.env)).all (fun x => !x.1) && (backToKw cpos (keywordEach [] Z.X.env)).all (fun x => x.1.isSome)
      && decide ([e].length + ([] : List Keyword).length + (if ([] : List Keyword).isEmpty then 0 else 1) < 30)) = true := by rfl)
    (hline : (apos.endLine == cpos.line) = true := by rfl) (hs : starEach [e] Z.X.env = (false, eval e Z.X.env) :: starEach [] Z.X.env := by rfl) :
    ME Z (.Call (.Attribute o "join" apos) [e] [] cpos) (mMeth tyStr joinW (k1 || p2) m ma) (p1 && p2) true :=
  me_meth PySem.F.plainAttrs_str F.slot_str_join F.type_str_join mt_join tyM_str rel_join ho ha hbase hfew hline hs rfl
theorem me_part (ho : ME Z o m p1 k1) (ha : MA Z [e] ma p2)
    (hbase : attributeBase o "partition" Z.X.env (eval o Z.X.env) = eval o Z.X.env := by rfl)
    (hfew : ((backTo cpos (starEach [e] Z.X.env)).all (fun x => !x.1) && (backToKw cpos (keywordEach [] Z.X.env)).all (fun x => x.1.isSome)
      && decide ([e].length + ([] : List Keyword).length + (if ([] : List Keyword).isEmpty then 0 else 1) < 30)) = true := by rfl)
    (hline : (apos.endLine == cpos.line) = true := by rfl) (hs : starEach [e] Z.X.env = (false, eval e Z.X.env) :: starEach [] Z.X.env := by rfl) :
    ME Z (.Call (.Attribute o "partition" apos) [e] [] cpos) (mMeth tyStr partW (k1 || p2) m ma) (p1 && p2) true :=
  me_meth PySem.F.plainAttrs_str F.slot_str_partition F.type_str_partition mt_partition tyM_str rel_part ho ha hbase hfew hline hs rfl
noncomputable def split1W (b : Bool) : W → List W → Option W := fun w ws => match ws with | [x] => splitW b w [x] | _ => none
noncomputable def split2W (b : Bool) : W → List W → Option W := fun w ws => match ws with | [x, y] => splitW b w [x, y] | _ => none
theorem me_split (b : Bool) (ho : ME Z o m p1 k1) (ha : MA Z [e] ma p2)
    (hbase : attributeBase o "split" Z.X.env (eval o Z.X.env) = eval o Z.X.env := by rfl)
    (hfew : ((backTo cpos (starEach [e] Z.X.env)).all (fun x => !x.1) && (backToKw cpos (keywordEach [] Z.X.env)).all (fun x => x.1.isSome)
      && decide ([e].length + ([] : List Keyword).length + (if ([] : List Keyword).isEmpty then 0 else 1) < 30)) = true := by rfl)
    (hline : (apos.endLine == cpos.line) = true := by rfl) (hs : starEach [e] Z.X.env = (false, eval e Z.X.env) :: starEach [] Z.X.env := by rfl) :
    ME Z (.Call (.Attribute o "split" apos) [e] [] cpos) (mMeth tyStr (split1W b) (k1 || p2) m ma) (p1 && p2) true :=
  me_meth PySem.F.plainAttrs_str F.slot_str_split F.type_str_split mt_split tyM_str (rel_split (Z := Z) (b := b)) ho ha hbase hfew hline hs rfl
theorem me_splitM (b : Bool) (ho : ME Z o m p1 k1) (ha : MA Z [e, e2] ma p2)
    (hbase : attributeBase o "split" Z.X.env (eval o Z.X.env) = eval o Z.X.env := by rfl)
    (hfew : ((backTo cpos (starEach [e, e2] Z.X.env)).all (fun x => !x.1) && (backToKw cpos (keywordEach [] Z.X.env)).all (fun x => x.1.isSome)
      && decide ([e, e2].length + ([] : List Keyword).length + (if ([] : List Keyword).isEmpty then 0 else 1) < 30)) = true := by rfl)
    (hline : (apos.endLine == cpos.line) = true := by rfl) (hs : starEach [e, e2] Z.X.env = (false, eval e Z.X.env) :: starEach [e2] Z.X.env := by rfl) (hpl : (backTo cpos (starEach [e2] Z.X.env)).any (·.1) = false := by rfl) :
    ME Z (.Call (.Attribute o "split" apos) [e, e2] [] cpos) (mMeth tyStr (split2W b) (k1 || p2) m ma) (p1 && p2) true :=
  me_meth PySem.F.plainAttrs_str F.slot_str_split F.type_str_split mt_splitMax tyM_str (rel_splitM (Z := Z) (b := b)) ho ha hbase hfew hline hs hpl
end
theorem w_join {a : Str} {b : Bool} {ys : List Str} (h : jnOk a ys) : joinW (.str a) [.lst b (ys.map W.str)] = some (.str (Txt.join a ys)) := by
  show ((strsW (ys.map W.str)).bind fun ys => if jnOk a ys then some (W.str (Txt.join a ys)) else none) = _
  rw [strsW_map, Option.bind_some, if_pos h]
theorem w_joinC {a : Str} {ys : List Str} (h : jnOk a ys) : joinW (.str a) [.scr (ys.map W.str)] = some (.str (Txt.join a ys)) := by
  show ((strsW (ys.map W.str)).bind fun ys => if jnOk a ys then some (W.str (Txt.join a ys)) else none) = _
  rw [strsW_map, Option.bind_some, if_pos h]
theorem w_split {a s : Str} {b : Bool} (h : spOk a s) : split1W b (.str a) [.str s] = some (.lst b ((Txt.split a s).map W.str)) := if_pos h
theorem w_splitM {a s : Str} {k : Int} {b : Bool} (h : spkOk a s k) : split2W b (.str a) [.str s, .int k] = some (.lst b ((Txt.splitMax a s k).map W.str)) := if_pos h
theorem w_part {a s : Str} (h : spOk a s) : partW (.str a) [.str s] = some (.tup [.str (Txt.partition a s).1, .str (Txt.partition a s).2.1, .str (Txt.partition a s).2.2]) := if_pos h
theorem ty_str (s : Str) : tyStr (.str s) = true := rfl
/-- a name is given a list of new lists -/
theorem ms_setLcN {Z : Zt} {i : Nat} {y : Str} {py : Pos} {elt tg iter : Expr} {ifs : List Expr} {scope : Scope} {own : List (Str × Nat)} {pos spos : Pos} {f : Tg} {mt : Sm Bool} {me : Sm W} {mi : Sm (List W)} (hc : Z.X.calm = true) (hN : Z.X.N.Nodup) (hi : MI Z tg iter mi true) (ok : BlkOk Z.X.N Z.X.env.scope scope own)
    (hg : ∀ (s : Shared) (H : Hp) (C : Addr) (cl : List (Str × Addr)) (fp : List Addr), MG (Z.blk s H scope C cl fp (own.map (·.2))) tg f) (ht : ∀ (s : Shared) (H : Hp) (C : Addr) (cl : List (Str × Addr)) (fp : List Addr), MTs (Z.blk s H scope C cl fp (own.map (·.2))) ifs mt true)
    (he : ∀ (s : Shared) (H : Hp) (C : Addr) (cl : List (Str × Addr)) (fp : List Addr), ME (Z.blk s H scope C cl fp (own.map (·.2))) elt me true true)
    (hy : Z.X.N[i]? = some y := by rfl) (hyl : Z.X.env.scope.names.lookup y = some .local := by rfl) (hio : Z.io i = false := by rfl)
    (hsw : swapsWith (.ListComp elt [⟨tg, iter, ifs, 0⟩] scope pos) (some (.Name y py)) spos.line Z.X.env = pure true := by exact sw_true rfl rfl rfl (by decide +kernel)) (hs : ∀ x, foldedSetIterable iter Z.X.env x = pure x := by intro _; rfl) :
    MS Z (.Assign [.Name y py] (.ListComp elt [⟨tg, iter, ifs, 0⟩] scope pos) spos) (sSet i true (mCompN f mt me (own.map (·.2)) mi)) := by
  have core := ps_setLc (X := Z.X) (i := i) (py := py) (spos := spos) (pos := pos) (g := TGx Z.D (ioB (own.map (·.2))) f) (tt := TT' Z.D W0 true mt) (te := TX Z.D W0 true true me) hc hN hy hyl hsw hi ok hg ht he hs
  refine ⟨fun pins sh σ H D I q => ?_⟩
  have hlen := I.len
  refine core.run pins sh σ H D I ?_
  have fin : ∀ {m : Sm W}, TSx Z.D Z.W Z.io (sSet i true m) D σ H → TX Z.D Z.W true true m σ H fun v H' => D.nx (σ.set i (some v)) H' := by
    intro m q
    obtain ⟨env, G, Os, s, q⟩ := q
    refine ⟨env, G, Os, s, ?_⟩
    unfold sSet Sm.bind at q
    cases e : m env with
    | bad => rw [e] at q; exact q
    | ex c env1 =>
      rw [e] at q
      exact fun G' H' Os' s' t => q σ G' H' Os' s' t.st (IoS.refl _)
    | ok w env1 =>
      rw [e] at q
      intro v G' H' Os' Ow s' r o t
      simp only [Bool.true_or, if_true] at q
      obtain ⟨s2, inn⟩ := s'.put i (by rw [hlen]; exact (List.getElem?_eq_some_iff.mp hy).1) r o
      exact q (σ.set i (some v)) G' H' (Os'.set i Ow) s2 (t.gen.less inn) (IoS.set hio)
  exact tx_lcN (Q := fun v H' => D.nx (σ.set i (some v)) H') (fin q)

end Ev

namespace Ev
open PySem PySem.Spec L2 TL
/-! ### the signs of numbers -/
def keyS (k : Int) : Str := Str.ofString (toString k)
def keyL (k : Int) : List Nat := if k < 0 then 45 :: numL k.natAbs else numL k.natAbs
theorem tl_key (k : Int) : tl (keyS k) = keyL k := by
  unfold keyS keyL
  cases k with
  | ofNat n =>
    rw [if_neg (by show ¬ (Int.ofNat n) < 0; have : (Int.ofNat n) = ((n : Nat) : Int) := rfl; omega)]
    exact tl_num n
  | negSucc n =>
    have e : (toString (n + 1)).toList.map Char.toNat = numL (n + 1) := by
      have z := tl_num (n + 1)
      rw [tl_ofString] at z
      exact z
    rw [show toString (Int.negSucc n) = "-" ++ toString (n + 1) from rfl, tl_ofString, String.toList_append, List.map_append, e, if_pos (Int.negSucc_lt_zero n)]
    rfl
theorem numL_head : ∀ {n : Nat}, (numL n)[0]? = some 48 → n = 0 := by
  intro n
  induction n using Nat.strongRecOn with
  | _ n ih =>
    intro h
    by_cases c : n < 10
    · rw [numL_lt c] at h
      have : 48 + n = 48 := by simpa using h
      omega
    · rw [numL_step (by omega)] at h
      have ne := numL_ne (n / 10)
      rw [List.getElem?_append_left (List.length_pos_iff.mpr ne)] at h
      have := ih (n / 10) (by omega) h
      omega
def isFig (c : Nat) : Bool := decide (48 ≤ c ∧ c ≤ 57)
theorem fig_mem (c : Nat) : decide (c ∈ (Str.cps "0123456789").toList) = isFig c := by
  have e : (Str.cps "0123456789").toList = [48, 49, 50, 51, 52, 53, 54, 55, 56, 57] := by decide
  rw [e]
  unfold isFig
  rw [Bool.eq_iff_iff, decide_eq_true_eq, decide_eq_true_eq]
  simp only [List.mem_cons, List.not_mem_nil, or_false]
  omega
/-- the figures of a key's word -/
def figsL (l : List Nat) : List Nat := if l.take 1 = [45] then l.drop 1 else l
structure OkKey (l : List Nat) : Prop where
  ne : figsL l ≠ []
  len : (figsL l).length ≤ 30
  fig : ∀ c ∈ figsL l, isFig c = true
  led : ¬ (1 < (figsL l).length ∧ (figsL l)[0]? = some 48)
  neg : l ≠ [45, 48]
def keyV (l : List Nat) : Int := if l.take 1 = [45] then -((NumText.digitsVal (l.drop 1) : Nat) : Int) else ((NumText.digitsVal l : Nat) : Int)
theorem take_one {l : List Nat} {c : Nat} (h : l.take 1 = [c]) : l = c :: l.drop 1 := by
  cases l with
  | nil => cases h
  | cons d r =>
    have : d = c := by simpa using h
    rw [this]; rfl
theorem OkKey.int {z : Str} (h : OkKey (tl z)) : intText? z = some (keyV (tl z)) ∧ z.length ≤ 31 := by
  have hl := len_tl z
  have hlen := h.len
  have hfig := h.fig
  have hne := h.ne
  unfold keyV
  unfold figsL at hlen hfig hne
  by_cases c : (tl z).take 1 = [45]
  · rw [if_pos c] at hlen hfig hne ⊢
    have e := take_one c
    have l1 : (tl z).length = ((tl z).drop 1).length + 1 := by
      conv => lhs; rw [e]
      rfl
    refine ⟨intText_neg e (fun c hc => by simpa [isFig] using hfig c hc) hne (by omega), by omega⟩
  · rw [if_neg c] at hlen hfig hne ⊢
    exact ⟨intText_digits (fun c hc => by simpa [isFig] using hfig c hc) hne (by omega), by omega⟩
theorem ok_key (k : Int) (h : k.natAbs < 10 ^ 30) : OkKey (keyL k) ∧ keyV (keyL k) = k := by
  have hd := numL_digits k.natAbs
  have hn := numL_ne k.natAbs
  have hl := numL_len (by decide : 0 < 30) h
  have hh : ∀ c ∈ numL k.natAbs, isFig c = true := fun c hc => by simpa [isFig] using hd c hc
  by_cases c : k < 0
  · have ek : keyL k = 45 :: numL k.natAbs := by unfold keyL; rw [if_pos c]
    have ef : figsL (keyL k) = numL k.natAbs := by
      rw [ek]
      unfold figsL
      rw [if_pos (by simp)]
      rfl
    refine ⟨⟨by rw [ef]; exact hn, by rw [ef]; exact hl, by rw [ef]; exact hh, ?_, ?_⟩, ?_⟩
    · rw [ef]
      rintro ⟨_, h2⟩
      have := numL_head h2
      omega
    · rw [ek]
      intro e
      have e2 : numL k.natAbs = numL 0 := by
        have := (List.cons.inj e).2
        rw [this]; rfl
      have := numL_inj e2
      omega
    · rw [ek]
      unfold keyV
      rw [if_pos (by simp)]
      show -((NumText.digitsVal (numL k.natAbs) : Nat) : Int) = k
      rw [numL_val]
      omega
  · have ek : keyL k = numL k.natAbs := by unfold keyL; rw [if_neg c]
    have nt : ¬ (numL k.natAbs).take 1 = [45] := fun e => by
      have e2 := take_one e
      have := hh 45 (by rw [e2]; exact List.mem_cons_self)
      exact absurd this (by decide)
    have ef : figsL (keyL k) = numL k.natAbs := by
      rw [ek]
      unfold figsL
      rw [if_neg nt]
    refine ⟨⟨by rw [ef]; exact hn, by rw [ef]; exact hl, by rw [ef]; exact hh, ?_, ?_⟩, ?_⟩
    · rw [ef]
      rintro ⟨h1, h2⟩
      have h0 := numL_head h2
      rw [h0] at h1
      exact absurd h1 (by decide)
    · rw [ek]
      intro e
      exact nt (by rw [e]; rfl)
    · rw [ek]
      unfold keyV
      rw [if_neg nt, numL_val]
      omega
theorem keyL_len (k : Int) (h : k.natAbs < 10 ^ 30) : (keyL k).length ≤ 31 := by
  have hl := numL_len (by decide : 0 < 30) h
  unfold keyL
  split
  · rw [List.length_cons]; omega
  · omega
/-- a sign that stands in no key -/
theorem keyL_free {s : Nat} (h : s ≠ 45) (h2 : s < 48 ∨ 57 < s) (k : Int) : s ∉ keyL k := by
  have hn := numL_free (n := k.natAbs) h2
  unfold keyL
  split
  · intro z
    rcases List.mem_cons.mp z with e | z
    · exact h e
    · exact hn z
  · exact hn
/-! ### slices of texts -/
theorem tl_take1 (z : Str) : tl (cutS z none (some 1)) = (tl z).take 1 := by
  unfold cutS
  rw [HT.sIx_none, show (1 : Int) = ((1 : Nat) : Int) from rfl, HT.sIx_nat, List.drop_zero, Nat.sub_zero]
  show ((tl z).take (min 1 z.length)) = _
  rw [len_tl]
  cases tl z with
  | nil => rfl
  | cons a r =>
    have : min 1 (a :: r).length = 1 := by rw [List.length_cons]; omega
    rw [this]
theorem tl_dropN (z : Str) (n : Nat) : tl (cutS z (some (n : Int)) none) = (tl z).drop n := by
  unfold cutS
  rw [HT.sIx_none, HT.sIx_nat]
  show ((tl z).drop (min n z.length)).take (z.length - min n z.length) = _
  rw [len_tl]
  by_cases h : n ≤ (tl z).length
  · rw [Nat.min_eq_left h, List.take_of_length_le (by rw [List.length_drop]; omega)]
  · rw [Nat.min_eq_right (by omega), List.drop_of_length_le (Nat.le_refl _), List.drop_of_length_le (by omega), List.take_nil]
theorem tl_drop1 (z : Str) : tl (cutS z (some 1) none) = (tl z).drop 1 := tl_dropN z 1
theorem str_dec (a b : Str) : decide (a = b) = decide (tl a = tl b) := by
  rw [Bool.eq_iff_iff, decide_eq_true_eq, decide_eq_true_eq]
  exact ⟨fun e => by rw [e], ext_tl⟩
theorem w_lenS (z : Str) (h : z.length ≤ sizeLine) : lenW (.str z) = some (.int (z.length : Int)) := if_pos h
theorem w_cutZ (b : Bool) (z : Str) (lo hi : Option Int) (h : z.length ≤ sizeLine) : cutW b (.str z) lo hi = some (.str (cutS z lo hi)) := if_pos h
theorem w_addZ (b : Bool) (x y : Str) (h : x.length + y.length ≤ sizeLine) : addW b (.str x) (.str y) = some (.str (x ++ y)) := if_pos h
theorem w_strOf (i : Int) (h : i.natAbs < 2 ^ 1900) : strOfW (.int i) = some (.str (keyS i)) := by
  have h2 : i.natAbs.log2 < 1920 := by
    by_cases z : i.natAbs = 0
    · rw [z]; decide
    · have := (Nat.log2_lt z (k := 1900)).mpr h
      omega
  exact if_pos h2
theorem w_toIntS (z : Str) (n : Int) (h : z.length ≤ 640) (e : intText? z = some n) : toIntW (.str z) = some (.int n) := by
  show (if z.length ≤ 640 then (intText? z).map W.int else none) = _
  rw [if_pos h, e]
  rfl
theorem w_ixZ (z : Str) (i : Nat) (c : Nat) (h : z.length ≤ sizeLine) (e : (tl z)[i]? = some c) : ixW (.str z) (.int (i : Int)) = some (.str ⟨#[c]⟩) := by
  show (if z.length ≤ sizeLine then (atI (tl z) (i : Int)).map fun c => W.str ⟨#[c]⟩ else none) = _
  rw [if_pos h, atI_nat, e]
  rfl
theorem join_len (S : List Nat) : ∀ ps : List (List Nat), (joinL S ps).length + S.length = (ps.map List.length).sum + (if ps = [] then S.length else ps.length * S.length)
  | [] => by simp [joinL]
  | [p] => by simp [joinL]
  | p :: q :: r => by
    have ih := join_len S (q :: r)
    rw [if_neg (by simp)] at ih
    rw [if_neg (by simp)]
    show (p ++ (S ++ joinL S (q :: r))).length + S.length = _
    rw [List.length_append, List.length_append, List.map_cons, List.sum_cons, List.length_cons (a := p), Nat.succ_mul]
    omega
end Ev

namespace Ev
open PySem PySem.Spec L2

/-! ### places: a thing within a thing -/
def W.kids : W → List W
  | .nst ws => ws
  | .ndc _ ws => ws
  | .obj _ _ ws => ws
  | _ => []
def W.withKids : W → List W → W
  | .nst _, ws => .nst ws
  | .ndc ks _, ws => .ndc ks ws
  | .obj c fs _, ws => .obj c fs ws
  | w, _ => w
def getP : W → List Nat → Option W
  | w, [] => some w
  | w, j :: p => match w.kids[j]? with
    | some x => getP x p
    | none => none
def setP : W → List Nat → W → W
  | _, [], y => y
  | w, j :: p, y => match w.kids[j]? with
    | some x => w.withKids (w.kids.set j (setP x p y))
    | none => w
/-- the values of what is within -/
def KidV (D : Dn) (H : Hp) : W → V → List V → Prop
  | .nst _, v, vs => ∃ a, v = .ref a ∧ H a = some (.lst vs)
  | .ndc ks _, v, vs => ∃ a, v = .ref a ∧ DR H a ks vs
  | .obj c fs _, v, vs => ∃ a dx, v = .ref a ∧ fs.length = vs.length ∧ H a = some (.ins (D.CA c) dx (fs.zip vs))
  | _, _, _ => False
theorem zip_snd {α β : Type} {l : List α} {xs ys : List β} (h1 : l.length = xs.length) (h2 : l.length = ys.length) (e : l.zip xs = l.zip ys) : xs = ys := by
  have a := List.map_snd_zip (l₁ := l) (l₂ := xs) (by omega)
  have b := List.map_snd_zip (l₁ := l) (l₂ := ys) (by omega)
  rw [← a, e, b]
theorem KidV.uniq {D : Dn} {H : Hp} {w : W} {v : V} {vs us : List V} (h : KidV D H w v vs) (k : KidV D H w v us) : vs = us := by
  cases w with
  | nst ws =>
    obtain ⟨a, rfl, e⟩ := h
    obtain ⟨b, e2, e3⟩ := k
    cases e2
    rw [e] at e3
    cases e3
    rfl
  | ndc ks ws =>
    obtain ⟨a, rfl, e⟩ := h
    obtain ⟨b, e2, e3⟩ := k
    cases e2
    cases ks with
    | k l =>
      obtain ⟨l1, e⟩ := e
      obtain ⟨l2, e3⟩ := e3
      rw [e] at e3
      have e4 : l.zip vs = l.zip us := by
        have := Option.some.inj e3
        injection this
      exact zip_snd l1 l2 e4
    | t l =>
      obtain ⟨l1, e⟩ := e
      obtain ⟨l2, e3⟩ := e3
      rw [e] at e3
      have e4 : l.zip vs = l.zip us := by
        have := Option.some.inj e3
        injection this
      exact zip_snd l1 l2 e4
  | obj c fs ws =>
    obtain ⟨a, dx, rfl, l1, e⟩ := h
    obtain ⟨b, dy, e2, l2, e3⟩ := k
    cases e2
    rw [e] at e3
    have e4 : fs.zip vs = fs.zip us := by
      have := Option.some.inj e3
      injection this
    exact zip_snd l1 l2 e4
  | _ => exact h.elim
/-- the value of what stands at a place -/
def NodeV (D : Dn) (H : Hp) : W → V → List Nat → V → Prop
  | _, v, [], y => y = v
  | w, v, j :: p, y => ∃ vs u x, KidV D H w v vs ∧ vs[j]? = some u ∧ w.kids[j]? = some x ∧ NodeV D H x u p y
theorem NodeV.uniq {D : Dn} {H : Hp} : ∀ {p : List Nat} {w : W} {v y z : V}, NodeV D H w v p y → NodeV D H w v p z → y = z
  | [], _, _, _, _, h, k => by rw [show _ = _ from h, show _ = _ from k]
  | j :: p, w, v, y, z, h, k => by
    obtain ⟨vs, u, x, h1, h2, h3, h4⟩ := h
    obtain ⟨vs', u', x', k1, k2, k3, k4⟩ := k
    have e := h1.uniq k1
    subst e
    rw [h2] at k2
    cases k2
    rw [h3] at k3
    cases k3
    exact NodeV.uniq h4 k4
theorem NodeV.snoc {D : Dn} {H : Hp} : ∀ {p : List Nat} {w w1 x : W} {v u y : V} {vs : List V} {k : Nat}, NodeV D H w v p u → getP w p = some w1 → KidV D H w1 u vs → vs[k]? = some y → w1.kids[k]? = some x → NodeV D H w v (p ++ [k]) y ∧ getP w (p ++ [k]) = some x
  | [], w, w1, x, v, u, y, vs, k, h, g, hk, hv, hx => by
    cases g
    rw [show u = v from h] at hk
    exact ⟨⟨vs, y, x, hk, hv, hx, rfl⟩, by rw [List.nil_append]; unfold getP; rw [hx]; rfl⟩
  | j :: p, w, w1, x, v, u, y, vs, k, h, g, hk, hv, hx => by
    obtain ⟨vs', u', x', h1, h2, h3, h4⟩ := h
    unfold getP at g
    rw [h3] at g
    obtain ⟨a, b⟩ := NodeV.snoc h4 g hk hv hx
    exact ⟨⟨vs', u', x', h1, h2, h3, a⟩, by rw [List.cons_append]; unfold getP; rw [h3]; exact b⟩
theorem ROs.kid {D : Dn} {G H : Hp} : ∀ {ws : List W} {vs : List V} {O : List Addr} {j : Nat} {x : W}, ROs D G H ws vs O → ws[j]? = some x →
    ∃ u O1 R, vs[j]? = some u ∧ RO D G H x u O1 ∧ (R ++ O1).Perm O ∧ ∀ (G' H' : Hp) (x' : W) (O1' : List Addr), Sub G G' → (∀ a ∈ R, ∀ o, H a = some o → H' a = some o) → RO D G' H' x' u O1' → ∃ O', ROs D G' H' (ws.set j x') vs O' ∧ O'.Perm (R ++ O1')
  | [], _, _, _, _, _, e => by simp at e
  | w :: ws, _, _, 0, x, h, e => by
    obtain ⟨v, r, O1, O2, rfl, rfl, h1, h2⟩ := h
    have ew : w = x := by simpa using e
    subst ew
    refine ⟨v, O1, O2, rfl, h1, List.perm_append_comm, fun G' H' x' O1' sub k r' => ⟨O1' ++ O2, ?_, List.perm_append_comm⟩⟩
    exact ⟨v, r, O1', O2, rfl, rfl, r', ROs.mono sub _ _ _ k h2⟩
  | w :: ws, _, _, j + 1, x, h, e => by
    obtain ⟨v, r, O1, O2, rfl, rfl, h1, h2⟩ := h
    obtain ⟨u, Ox, R, e1, e2, e3, e4⟩ := ROs.kid (j := j) (x := x) h2 (by simpa using e)
    refine ⟨u, Ox, O1 ++ R, by simpa using e1, e2, by rw [List.append_assoc]; exact List.Perm.append_left _ e3, fun G' H' x' O1' sub k r' => ?_⟩
    obtain ⟨O', f1, f2⟩ := e4 G' H' x' O1' sub (fun a ha => k a (List.mem_append_right _ ha)) r'
    exact ⟨O1 ++ O', ⟨v, r, O1, O', rfl, rfl, RO.mono sub _ _ _ (fun a ha => k a (List.mem_append_left _ ha)) h1, f1⟩, by rw [List.append_assoc]; exact List.Perm.append_left _ f2⟩
theorem RO.kidsAt {D : Dn} {G H : Hp} {w : W} {v : V} {O : List Addr} {j : Nat} {x : W} (h : RO D G H w v O) (e : w.kids[j]? = some x) :
    ∃ a vs O', v = .ref a ∧ O = a :: O' ∧ (∀ H', (∀ o, H a = some o → H' a = some o) → KidV D H' w v vs) ∧ ROs D G H w.kids vs O' ∧ ∀ (G' H' : Hp) (ws' : List W) (O'' : List Addr), (∀ o, H a = some o → H' a = some o) → ROs D G' H' ws' vs O'' → RO D G' H' (w.withKids ws') v (a :: O'') := by
  cases w with
  | nst ws =>
    obtain ⟨a, vs, O', rfl, rfl, h1, h2⟩ := h
    exact ⟨a, vs, O', rfl, rfl, fun H' k => ⟨a, rfl, k _ h1⟩, h2, fun G' H' ws' O'' k r => ⟨a, vs, O'', rfl, rfl, k _ h1, r⟩⟩
  | ndc ks ws =>
    obtain ⟨a, vs, O', rfl, rfl, h1, h2⟩ := h
    exact ⟨a, vs, O', rfl, rfl, fun H' k => ⟨a, rfl, h1.keep k⟩, h2, fun G' H' ws' O'' k r => ⟨a, vs, O'', rfl, rfl, h1.keep k, r⟩⟩
  | obj c fs ws =>
    obtain ⟨a, dx, vs, O', rfl, rfl, hl, h1, h2⟩ := h
    exact ⟨a, vs, O', rfl, rfl, fun H' k => ⟨a, dx, rfl, hl, k _ h1⟩, h2, fun G' H' ws' O'' k r => ⟨a, dx, vs, O'', rfl, rfl, hl, k _ h1, r⟩⟩
  | _ => exact absurd e (by unfold W.kids; simp)
theorem RO.place {D : Dn} {G H : Hp} : ∀ (p : List Nat) {w w1 : W} {v : V} {O : List Addr}, RO D G H w v O → getP w p = some w1 →
    ∃ u O1 R, RO D G H w1 u O1 ∧ (R ++ O1).Perm O ∧ (∀ H', (∀ a ∈ O, ∀ o, H a = some o → H' a = some o) → NodeV D H' w v p u) ∧
      ∀ (G' H' : Hp) (y : W) (O1' : List Addr), Sub G G' → (∀ a ∈ R, ∀ o, H a = some o → H' a = some o) → RO D G' H' y u O1' → ∃ O', RO D G' H' (setP w p y) v O' ∧ O'.Perm (R ++ O1')
  | [], w, w1, v, O, h, g => by
    cases g
    exact ⟨v, O, [], h, by rw [List.nil_append], fun _ _ => rfl, fun G' H' y O1' _ _ r => ⟨O1', r, by rw [List.nil_append]⟩⟩
  | j :: p, w, w1, v, O, h, g => by
    unfold getP at g
    cases e : w.kids[j]? with
    | none => rw [e] at g; cases g
    | some x =>
      rw [e] at g
      obtain ⟨a, vs, O', rfl, rfl, kv, hk, back⟩ := h.kidsAt e
      obtain ⟨u0, Ok, Rk, f1, f2, f3, f4⟩ := ROs.kid hk e
      obtain ⟨u, O1, R1, i1, i2, i3, i4⟩ := RO.place p f2 g
      refine ⟨u, O1, a :: (Rk ++ R1), i1, ?_, fun H' k => ?_, fun G' H' y O1' sub k r => ?_⟩
      · rw [List.cons_append, List.append_assoc]
        exact List.Perm.cons _ ((List.Perm.append_left _ i2).trans f3)
      · refine ⟨vs, u0, x, kv H' fun o ho => k a List.mem_cons_self o ho, f1, e, i3 H' fun b hb => k b (List.mem_cons_of_mem _ (f3.mem_iff.mp (List.mem_append_right _ hb)))⟩
      · obtain ⟨Ok', j1, j2⟩ := i4 G' H' y O1' sub (fun b hb => k b (List.mem_cons_of_mem _ (List.mem_append_right _ hb))) r
        obtain ⟨O'', l1, l2⟩ := f4 G' H' _ _ sub (fun b hb => k b (List.mem_cons_of_mem _ (List.mem_append_left _ hb))) j1
        refine ⟨a :: O'', ?_, ?_⟩
        · unfold setP
          rw [e]
          exact back G' H' _ _ (fun o ho => k a List.mem_cons_self o ho) l1
        · rw [List.cons_append, List.append_assoc]
          exact List.Perm.cons _ (l2.trans (List.Perm.append_left _ j2))
/-- what stands at a place of a slot, and how it may be put otherwise -/
structure Foc (D : Dn) (G H : Hp) (env : List W) (σ : St) (Os : List (List Addr)) (i : Nat) (w : W) (p : List Nat) (w1 : W) (v u : V) (O1 R : List Addr) : Prop where
  sv : σ[i]? = some (some v)
  ro : RO D G H w1 u O1
  pm : (R ++ O1).Perm Os.flatten
  nv : ∀ H', (∀ a ∈ Os.flatten, ∀ o, H a = some o → H' a = some o) → NodeV D H' w v p u
  back : ∀ (G' H' : Hp) (y : W) (O1' : List Addr), Sub G G' → Sub G' H' → (∀ a ∈ R, ∀ o, H a = some o → H' a = some o) → (∀ a ∈ R, G' a = none) → RO D G' H' y u O1' → (R ++ O1').Nodup → (∀ a ∈ O1', G' a = none) →
    ∃ Os', StOk D G' H' (env.set i (setP w p y)) σ Os' ∧ Os'.flatten.Perm (R ++ O1')
theorem StOk.focus {D : Dn} {G H : Hp} {env : List W} {σ : St} {Os : List (List Addr)} {i : Nat} {w w1 : W} {p : List Nat} (s : StOk D G H env σ Os) (e : env[i]? = some w) (nd : w ≠ .dead) (g : getP w p = some w1) :
    ∃ v u O1 R, Foc D G H env σ Os i w p w1 v u O1 R := by
  obtain ⟨sv, O, h1, h2, h3⟩ := s.sl.at e
  have hv : ∃ v, sv = some v ∧ RO D G H w v O := by
    rcases h3 with h3 | ⟨z, _⟩
    · exact h3
    · exact absurd z nd
  obtain ⟨v, rfl, ro⟩ := hv
  obtain ⟨u, O1, R0, i1, i2, i3, i4⟩ := RO.place p ro g
  have p1 := flat_set (O' := []) h2
  rw [List.append_nil] at p1
  have inO : ∀ a ∈ O, a ∈ Os.flatten := fun a ha => flat_mem h2 ha
  refine ⟨v, u, O1, (Os.set i []).flatten ++ R0, h1, i1, ?_, fun H' k => i3 H' fun a ha => k a (inO a ha), fun G' H' y O1' sub sub' k gn r ndp gn' => ?_⟩
  · rw [List.append_assoc]
    exact (List.Perm.append_left _ i2).trans p1
  · obtain ⟨O', j1, j2⟩ := i4 G' H' y O1' sub (fun a ha => k a (List.mem_append_right _ ha)) r
    have hi : i < Os.length := (List.getElem?_eq_some_iff.mp h2).1
    have e0 : (Os.set i [])[i]? = some [] := by rw [List.getElem?_set_self hi]
    have p2 := flat_set (O' := O') e0
    rw [List.append_nil, List.set_set] at p2
    have pm : (Os.set i O').flatten.Perm ((Os.set i []).flatten ++ R0 ++ O1') := by
      rw [List.append_assoc]
      exact p2.trans (List.Perm.append_left _ j2)
    refine ⟨Os.set i O', ⟨?_, sub', fun a ha => ?_, pm.nodup_iff.mpr ndp⟩, pm⟩
    · have s0 : Sl D G' H' (env.set i .dead) σ (Os.set i []) := (s.sl.kill1 i).mono sub fun a ha x hx => k a (List.mem_append_left _ ha) x hx
      have s1 := Sl.set (D := D) (G := G') (H := H') (w := setP w p y) (s := some v) (O := O') (.inl ⟨v, rfl, j1⟩) i s0
      rw [set_self h1, List.set_set, List.set_set] at s1
      exact s1
    · rcases List.mem_append.mp (pm.mem_iff.mp ha) with z | z
      · exact gn a z
      · exact gn' a z
theorem Foc.inR {D : Dn} {G H : Hp} {env : List W} {σ : St} {Os : List (List Addr)} {i : Nat} {w w1 : W} {p : List Nat} {v u : V} {O1 R : List Addr} (f : Foc D G H env σ Os i w p w1 v u O1 R) : ∀ a ∈ R, a ∈ Os.flatten := fun a ha => f.pm.mem_iff.mp (List.mem_append_left _ ha)
theorem Foc.in1 {D : Dn} {G H : Hp} {env : List W} {σ : St} {Os : List (List Addr)} {i : Nat} {w w1 : W} {p : List Nat} {v u : V} {O1 R : List Addr} (f : Foc D G H env σ Os i w p w1 v u O1 R) : ∀ a ∈ O1, a ∈ Os.flatten := fun a ha => f.pm.mem_iff.mp (List.mem_append_right _ ha)
/-- the thing at the place is changed at an address of its own; more may become its own -/
theorem Foc.upd {D : Dn} {G H : Hp} {env : List W} {σ : St} {Os : List (List Addr)} {i : Nat} {w w1 y : W} {p : List Nat} {v u : V} {O1 R O1' Ow : List Addr} {b : Addr} {o : HO} (s : StOk D G H env σ Os) (f : Foc D G H env σ Os i w p w1 v u O1 R) (hb : b ∈ O1)
    (r : RO D G (upd H b o) y u O1') (n1 : O1'.Nodup) (hs : ∀ a ∈ O1', a ∈ O1 ∨ a ∈ Ow) (nd : (Os.flatten ++ Ow).Nodup) (gn : ∀ a ∈ Ow, G a = none) :
    ∃ Os', StOk D G (upd H b o) (env.set i (setP w p y)) σ Os' ∧ Step G H (Os.flatten ++ Ow) G (upd H b o) Os'.flatten := by
  have inO : b ∈ Os.flatten := f.in1 b hb
  have gb : G b = none := s.gn b inO
  have ndp : (R ++ O1).Nodup := f.pm.nodup_iff.mpr s.nd
  have nR : ∀ a ∈ R, a ≠ b := fun a ha e => (List.nodup_append.mp ndp).2.2 a ha b hb e
  have nd2 : (R ++ O1').Nodup := by
    refine List.nodup_append.mpr ⟨(List.nodup_append.mp ndp).1, n1, fun a ha c hc e => ?_⟩
    subst e
    rcases hs a hc with z | z
    · exact (List.nodup_append.mp ndp).2.2 a ha a z rfl
    · exact (List.nodup_append.mp nd).2.2 a (f.inR a ha) a z rfl
  obtain ⟨Os', k1, k2⟩ := f.back G (L2.upd H b o) y O1' (Sub.refl _) (fun a x ha => by rw [upd_ne (ne_of_none ha gb)]; exact s.sub a x ha) (fun a ha x hx => by rw [upd_ne (nR a ha)]; exact hx)
    (fun a ha => s.gn a (f.inR a ha)) r nd2 (fun a ha => by
      rcases hs a ha with z | z
      · exact s.gn a (f.in1 a z)
      · exact gn a z)
  refine ⟨Os', k1, Sub.refl _, fun a x ha hn => ?_, fun a x ha hn _ g => g, fun a ha => .inl ?_⟩
  · rw [upd_ne (fun e => hn (by rw [e]; exact List.mem_append_left _ inO))]; exact ha
  · rcases List.mem_append.mp (k2.mem_iff.mp ha) with z | z
    · exact List.mem_append_left _ (f.inR a z)
    · rcases hs a z with y' | y'
      · exact List.mem_append_left _ (f.in1 a y')
      · exact List.mem_append_right _ y'
/-- the place's value stands behind what changes nothing -/
theorem Foc.same {D : Dn} {G H : Hp} {env : List W} {σ : St} {Os : List (List Addr)} {i : Nat} {w w1 : W} {p : List Nat} {v u v' u' : V} {O1 R : List Addr} (s : StOk D G H env σ Os) (f : Foc D G H env σ Os i w p w1 v u O1 R) (h1 : σ[i]? = some (some v')) (h2 : NodeV D H w v' p u') : u' = u := by
  have e := f.sv
  rw [h1] at e
  cases e
  exact h2.uniq (f.nv H fun _ _ _ h => h)
/-! ### the judgement of a place -/
def TP (D : Dn) (Wx : WX) (i : Nat) (m : Sm (List Nat)) : TE := fun σ H Q => ∃ (env : List W) (G : Hp) (Os : List (List Addr)), StOk D G H env σ Os ∧ match m env with
  | .ok p env' => ∃ w w1, env'[i]? = some w ∧ w ≠ .dead ∧ getP w p = some w1 ∧ ∀ v u G' H' Os', StOk D G' H' env' σ Os' → Stp true env G H Os env' G' H' Os' [] → σ[i]? = some (some v) → NodeV D H' w v p u → Q u H'
  | .ex c env' => ∀ G' H' Os', StOk D G' H' env' σ Os' → Stp true env G H Os env' G' H' Os' [] → Wx (.ref (D.CA c)) none σ H'
  | .bad => False
abbrev MP (Z : Zt) (e : Expr) (i : Nat) (m : Sm (List Nat)) : Prop := PE Z.X e (TP Z.D Z.W i m)
def lvW : W → Bool
  | .dead => false
  | _ => true
theorem lvW_ne {w : W} (h : lvW w = true) : w ≠ .dead := fun e => by subst e; cases h
def pV (i : Nat) : Sm (List Nat) := fun env => match env[i]? with
  | some w => if lvW w = true then .ok [] env else .bad
  | none => .bad
/-- the node at a place -/
def nodeAt (i : Nat) (p : List Nat) (env : List W) : Option W := match env[i]? with
  | some w => if lvW w = true then getP w p else none
  | none => none
theorem nodeAt_some {i : Nat} {p : List Nat} {env : List W} {w1 : W} (h : nodeAt i p env = some w1) : ∃ w, env[i]? = some w ∧ w ≠ .dead ∧ getP w p = some w1 := by
  unfold nodeAt at h
  cases e : env[i]? with
  | none => rw [e] at h; cases h
  | some w =>
    rw [e] at h
    by_cases c : lvW w = true
    · simp only [if_pos c] at h
      exact ⟨w, rfl, lvW_ne c, h⟩
    · simp only [if_neg c] at h
      cases h
theorem mp_var {Z : Zt} {e : Expr} (i : Nat) (h : PE Z.X e (tVar i)) : MP Z e i (pV i) := pe_imp h fun σ H Q q => by
  obtain ⟨env, G, Os, s, q⟩ := q
  unfold pV at q
  cases e : env[i]? with
  | none => rw [e] at q; exact q.elim
  | some w =>
    rw [e] at q
    by_cases c : lvW w = true
    · simp only [if_pos c] at q
      obtain ⟨w', w1, h1, h2, h3, q⟩ := q
      have ew : w' = w := by rw [e] at h1; exact (Option.some.inj h1).symm
      subst ew
      obtain ⟨v, u, O1, R, f⟩ := s.focus e h2 h3
      exact ⟨v, f.sv, q v v G H Os s ⟨rfl, rfl, Step.refl _ _ _⟩ f.sv rfl⟩
    · simp only [if_neg c] at q
/-- the field's number -/
def fIx : List Str → Str → Option Nat
  | [], _ => none
  | g :: fs, f => if (f == g) = true then some 0 else (fIx fs f).map (· + 1)
theorem fIx_lookup {α : Type} : ∀ {fs : List Str} {vs : List α} {f : Str} {k : Nat}, fs.length = vs.length → fIx fs f = some k → (fs.zip vs).lookup f = vs[k]? ∧ k < vs.length
  | [], _, _, _, _, h => by cases h
  | g :: fs, [], _, _, hl, _ => nomatch hl
  | g :: fs, v :: vs, f, k, hl, h => by
    unfold fIx at h
    rw [List.zip_cons_cons, List.lookup_cons]
    by_cases c : (f == g) = true
    · rw [if_pos c] at h
      cases h
      rw [c]
      exact ⟨rfl, by rw [List.length_cons]; omega⟩
    · rw [if_neg c] at h
      have c' : (f == g) = false := by simpa using c
      rw [c']
      cases e : fIx fs f with
      | none => rw [e] at h; cases h
      | some k' =>
        rw [e] at h
        cases h
        obtain ⟨a, b⟩ := fIx_lookup (vs := vs) (Nat.succ.inj hl) e
        exact ⟨by rw [List.getElem?_cons_succ]; exact a, by rw [List.length_cons]; exact Nat.succ_lt_succ b⟩
def pF (c i : Nat) (f : Str) (m : Sm (List Nat)) : Sm (List Nat) := Sm.bind m fun p env => match nodeAt i p env with
  | some (.obj c' fs _) => if c' = c then (match fIx fs f with
    | some k => .ok (p ++ [k]) env
    | none => .bad) else .bad
  | _ => .bad
theorem RO.objAt {D : Dn} {G H : Hp} {c : Nat} {fs : List Str} {ws : List W} {v : V} {O : List Addr} (h : RO D G H (.obj c fs ws) v O) : ∃ a dx vs O', v = .ref a ∧ O = a :: O' ∧ fs.length = vs.length ∧ H a = some (.ins (D.CA c) dx (fs.zip vs)) ∧ ROs D G H ws vs O' := h
theorem ROs.len' {D : Dn} {G H : Hp} : ∀ {ws : List W} {vs : List V} {O : List Addr}, ROs D G H ws vs O → ws.length = vs.length
  | [], _, _, h => by rw [h.1]; rfl
  | w :: ws, _, _, h => by
    obtain ⟨v, r, O1, O2, rfl, rfl, h1, h2⟩ := h
    rw [List.length_cons, List.length_cons, ROs.len' h2]
theorem mp_fld {Z : Zt} {e : Expr} {i c : Nat} {f : Str} {m : Sm (List Nat)} {pos : Pos} (hc : Cls Z.X.K (Z.CA c)) (hn : NoAttr Z.X.K (Z.CA c) f) (h : MP Z e i m) (hb : attributeBase e f Z.X.env (eval e Z.X.env) = eval e Z.X.env := by rfl) : MP Z (.Attribute e f pos) i (pF c i f m) :=
  pe_imp (pe_fld h hb) fun σ H Q q => by
    obtain ⟨env, G, Os, s, q⟩ := q
    refine ⟨env, G, Os, s, ?_⟩
    unfold pF Sm.bind at q
    cases e1 : m env with
    | bad => rw [e1] at q; exact q
    | ex c env1 => rw [e1] at q; exact q
    | ok p env1 =>
      rw [e1] at q
      dsimp only at q
      cases e2 : nodeAt i p env1 with
      | none => rw [e2] at q; exact q.elim
      | some w1 =>
        have hw : ∃ c' fs ws, w1 = .obj c' fs ws := by
          rw [e2] at q
          cases w1 <;> first
            | exact q.elim
            | exact ⟨_, _, _, rfl⟩
        obtain ⟨c', fs, ws, rfl⟩ := hw
        rw [e2] at q
        by_cases ec : c' = c
        · subst ec
          simp only [if_true] at q
          cases e3 : fIx fs f with
          | none => rw [e3] at q; exact q.elim
          | some k =>
            simp only [e3] at q
            obtain ⟨w, x, a1, a2, a3, q⟩ := q
            obtain ⟨w', b1, b2, b3⟩ := nodeAt_some e2
            rw [a1] at b1
            cases b1
            refine ⟨w, .obj c' fs ws, a1, a2, b3, fun v u G' H' Os' s' t hv nv => ?_⟩
            obtain ⟨v', u', O1, R, fo⟩ := s'.focus a1 b2 b3
            have eu := fo.same s' hv nv
            subst eu
            obtain ⟨a, dx, vs, O', rfl, rfl, hl, ha, hr⟩ := fo.ro.objAt
            obtain ⟨l1, l2⟩ := fIx_lookup hl e3
            have hx : vs[k]? = some vs[k] := List.getElem?_eq_getElem l2
            have hk : ws[k]? = some (ws[k]'(by rw [hr.len']; exact l2)) := List.getElem?_eq_getElem _
            exact ⟨a, Z.CA c', dx, fs.zip vs, vs[k], rfl, ha, hc, hn, by rw [l1, hx], q v vs[k] G' H' Os' s' t hv (nv.snoc b3 ⟨a, dx, rfl, hl, ha⟩ hx hk).1⟩
        · simp only [if_neg ec] at q
end Ev

namespace Ev
open PySem PySem.Spec L2

/-- the place behind what changes nothing -/
theorem Foc.on {D : Dn} {G H G2 H2 : Hp} {env : List W} {σ : St} {Os : List (List Addr)} {i : Nat} {w w1 : W} {p : List Nat} {v u : V} {O1 R O2 : List Addr} (e : env[i]? = some w) (nd : w ≠ .dead) (g : getP w p = some w1) (f : Foc D G H env σ Os i w p w1 v u O1 R)
    (s2 : StOk D G2 H2 env σ Os) (t : Step G H [] G2 H2 O2) : ∃ O1' R', Foc D G2 H2 env σ Os i w p w1 v u O1' R' := by
  obtain ⟨v2, u2, O1', R', f2⟩ := s2.focus e nd g
  have ev : v2 = v := by
    have := f.sv
    rw [f2.sv] at this
    cases this
    rfl
  subst ev
  have eu := f2.same s2 f.sv (f.nv H2 fun a _ o h => t.keep a o h (fun z => nomatch z))
  subst eu
  exact ⟨O1', R', f2⟩
def putAt (i : Nat) (p : List Nat) (y : W) (env : List W) : List W := match env[i]? with
  | some w => env.set i (setP w p y)
  | none => env
theorem putAt_of {i : Nat} {p : List Nat} {y w : W} {env : List W} (e : env[i]? = some w) : putAt i p y env = env.set i (setP w p y) := by
  unfold putAt
  rw [e]
theorem ixN_lt {n : Nat} {i : Int} {k : Nat} (h : ixN n i = some k) : k < n := by
  unfold ixN at h
  repeat' split at h
  all_goals first
    | (have := Option.some.inj h; omega)
    | cases h
/-! ### an item of a list of lists, as a place -/
def pI (i : Nat) (m : Sm (List Nat)) (mi : Sm W) : Sm (List Nat) := Sm.bind m fun p env1 => match nodeAt i p env1 with
  | some (.nst ws) => (match mi env1 with
    | .ok (.int n) _ => (match ixN ws.length n with
      | some k => .ok (p ++ [k]) env1
      | none => .bad)
    | .ex c _ => .ex c env1
    | _ => .bad)
  | _ => .bad
theorem mp_ix {Z : Zt} {e ix : Expr} {i : Nat} {m : Sm (List Nat)} {mi : Sm W} {k : Bool} {pos : Pos} (h : MP Z e i m) (hi : ME Z ix mi true k) (hs : PlainIx ix := by exact fun _ _ => rfl) : MP Z (.Subscript e ix pos) i (pI i m mi) :=
  pe_imp (pe_ix ix_list h hi hs) fun σ H Q q => by
    obtain ⟨env, G, Os, s, q⟩ := q
    refine ⟨env, G, Os, s, ?_⟩
    unfold pI Sm.bind at q
    cases e1 : m env with
    | bad => rw [e1] at q; exact q
    | ex c env1 => rw [e1] at q; exact q
    | ok p env1 =>
      rw [e1] at q
      dsimp only at q
      cases e2 : nodeAt i p env1 with
      | none => rw [e2] at q; exact q.elim
      | some w1 =>
        have hw : ∃ ws, w1 = .nst ws := by
          rw [e2] at q
          cases w1 <;> first
            | exact q.elim
            | exact ⟨_, rfl⟩
        obtain ⟨ws, rfl⟩ := hw
        rw [e2] at q
        obtain ⟨w', b1, b2, b3⟩ := nodeAt_some e2
        refine ⟨w', .nst ws, b1, b2, b3, fun v u G1 H1 Os1 s1 t1 hv nv => ?_⟩
        obtain ⟨v0, u0, O1, R, fo⟩ := s1.focus b1 b2 b3
        have ev : v0 = v := by have := fo.sv; rw [hv] at this; cases this; rfl
        subst ev
        have eu := fo.same s1 hv nv
        subst eu
        refine ⟨env1, G1, Os1, s1, ?_⟩
        cases e3 : mi env1 with
        | bad => simp only [e3] at q
        | ex c env2 =>
          simp only [e3] at q
          intro G2 H2 Os2 s2 t2
          obtain ⟨rfl, rfl, t2'⟩ := id t2
          exact q G2 H2 Os2 s2 (by have z := t1.trans t2; exact z)
        | ok wi env2 =>
          cases wi with
          | int n =>
            simp only [e3] at q
            intro iv G2 H2 Os2 Oi s2 ri oi t2
            obtain ⟨rfl, rfl, t2'⟩ := id t2
            obtain ⟨_, rfl⟩ := ri
            cases e4 : ixN ws.length n with
            | none => rw [e4] at q; exact q.elim
            | some k =>
              rw [e4] at q
              obtain ⟨w, x, a1, a2, a3, q⟩ := q
              rw [a1] at b1
              cases b1
              obtain ⟨O1', R', f2⟩ := fo.on a1 a2 b3 s2 t2'
              obtain ⟨a, vs, O', rfl, rfl, ha, hr⟩ := f2.ro
              have hk : k < ws.length := ixN_lt e4
              have hl := hr.len'
              obtain ⟨y, hx⟩ : ∃ y, vs[k]? = some y := ⟨_, List.getElem?_eq_getElem (by rw [← hl]; exact hk)⟩
              have hy : ws[k]? = some ws[k] := List.getElem?_eq_getElem hk
              rw [hl] at e4
              refine ⟨a, vs, n, y, rfl, rfl, SqL.of ha, ?_, q v0 y G2 H2 Os2 s2 (t1.trans (t2.less fun _ z => nomatch z)) hv ((f2.nv H2 fun _ _ _ h => h).snoc b3 ⟨a, rfl, ha⟩ hx hy).1⟩
              unfold atI
              rw [e4]
              exact hx
          | _ => simp only [e3] at q
/-! ### what stands at a place, read -/
def mRd (i : Nat) (m : Sm (List Nat)) : Sm W := Sm.bind m fun p env1 => match nodeAt i p env1 with
  | some x => if lvW x = true then .ok x env1 else .bad
  | none => .bad
theorem me_rd {Z : Zt} {e : Expr} {i : Nat} {m : Sm (List Nat)} (h : MP Z e i m) : ME Z e (mRd i m) true false := pe_imp h fun σ H Q q => by
  obtain ⟨env, G, Os, s, q⟩ := q
  refine ⟨env, G, Os, s, ?_⟩
  unfold mRd Sm.bind at q
  cases e1 : m env with
  | bad => rw [e1] at q; exact q
  | ex c env1 => rw [e1] at q; exact q
  | ok p env1 =>
    rw [e1] at q
    dsimp only at q
    cases e2 : nodeAt i p env1 with
    | none => rw [e2] at q; exact q.elim
    | some x =>
      rw [e2] at q
      by_cases c : lvW x = true
      · simp only [if_pos c] at q
        obtain ⟨w', b1, b2, b3⟩ := nodeAt_some e2
        refine ⟨w', x, b1, b2, b3, fun v u G1 H1 Os1 s1 t1 hv nv => ?_⟩
        obtain ⟨v0, u0, O1, R, fo⟩ := s1.focus b1 b2 b3
        have ev : v0 = v := by have := fo.sv; rw [hv] at this; cases this; rfl
        subst ev
        have eu := fo.same s1 hv nv
        subst eu
        exact q _ G1 H1 Os1 O1 s1 fo.ro fo.in1 t1
      · simp only [if_neg c] at q
theorem r_rd {env : List W} (i : Nat) (m : Sm (List Nat)) : mRd i m env = match m env with
  | .ok p env1 => (match nodeAt i p env1 with
    | some x => if lvW x = true then .ok x env1 else .bad
    | none => .bad)
  | .ex c e' => .ex c e'
  | .bad => .bad := by
  unfold mRd
  rw [r_bind]
  cases m env <;> rfl
/-! ### a method of a list at a place -/
def mMutP (i : Nat) (mp : Sm (List Nat)) (F : MutF) (m : Sm (List W)) : Sm W := Sm.bind mp fun p env1 => match nodeAt i p env1 with
  | some (.lst true xs) => (match m env1 with
    | .ok us _ => (match F xs us with
      | some (w, xs') => .ok w (putAt i p (.lst true xs') env1)
      | none => .bad)
    | .ex c _ => .ex c env1
    | .bad => .bad)
  | _ => .bad
theorem tx_mutP {Z : Zt} {i : Nat} {F : MutF} {mp : Sm (List Nat)} {m : Sm (List W)} {σ : St} {H : Hp} {Q : VK} {r : V → List V → Hp → VK → Prop}
    (hr : ∀ (G H : Hp) (a : Addr) (xs ws : List W) (vs us : List V) (w : W) (xs' : List W) (Q : VK), Sub G H → H a = some (.lst vs) → RFs Z.D G xs vs → RFs Z.D G ws us → F xs ws = some (w, xs') → (∀ v vs', RF Z.D G w v → RFs Z.D G xs' vs' → Q v (upd H a (.lst vs'))) → r (.ref a) us H Q)
    (q : TX Z.D Z.W false true (mMutP i mp F m) σ H Q) : TP Z.D Z.W i mp σ H fun x H1 => tyV Z.X.K "list" x H1 ∧ TA' Z.D Z.W true m σ H1 fun us H2 => r x us H2 Q := by
  obtain ⟨env, G, Os, s, q⟩ := q
  refine ⟨env, G, Os, s, ?_⟩
  unfold mMutP Sm.bind at q
  cases e1 : mp env with
  | bad => rw [e1] at q; exact q
  | ex c env1 =>
    rw [e1] at q
    intro G' H' Os' s' t
    obtain ⟨rfl, rfl, _⟩ := id t
    exact q G' H' Os' s' (Stp.gen t)
  | ok p env1 =>
    rw [e1] at q
    dsimp only at q
    cases e2 : nodeAt i p env1 with
    | none => rw [e2] at q; exact q.elim
    | some w1 =>
      have hw : ∃ xs, w1 = .lst true xs := by
        rw [e2] at q
        cases w1 <;> first
          | exact q.elim
          | (rename_i b _; cases b <;> first | exact q.elim | exact ⟨_, rfl⟩)
      obtain ⟨xs, rfl⟩ := hw
      rw [e2] at q
      obtain ⟨w', b1, b2, b3⟩ := nodeAt_some e2
      refine ⟨w', .lst true xs, b1, b2, b3, fun v u G1 H1 Os1 s1 t1 hv nv => ?_⟩
      obtain ⟨rfl, rfl, t1'⟩ := id t1
      obtain ⟨v0, u0, O1, R, fo⟩ := s1.focus b1 b2 b3
      have ev : v0 = v := by have := fo.sv; rw [hv] at this; cases this; rfl
      subst ev
      have eu := fo.same s1 hv nv
      subst eu
      obtain ⟨a, vs, rfl, rfl, ha, hra⟩ := fo.ro
      refine ⟨.inl ⟨rfl, _, SqL.of ha⟩, env1, G1, Os1, s1, ?_⟩
      cases em : m env1 with
      | bad => simp only [em] at q
      | ex c env2 =>
        simp only [em] at q
        intro G' H' Os' s' t
        obtain ⟨rfl, rfl, t'⟩ := id t
        exact q G' H' Os' s' ((Stp.gen t1).less (fun x hx => List.mem_append_left _ (by simpa using hx)) |>.trans (Stp.gen t))
      | ok as env2 =>
        simp only [em] at q
        intro asv G2 H2 Os2 s2 ra t2
        obtain ⟨rfl, rfl, t2'⟩ := id t2
        cases eF : F xs as with
        | none => simp only [eF] at q
        | some ww =>
          obtain ⟨w, xs'⟩ := ww
          simp only [eF] at q
          obtain ⟨O1', R', f2⟩ := fo.on b1 b2 b3 s2 t2'
          obtain ⟨a2, vs2, e5, rfl, ha2, hra2⟩ := f2.ro
          cases e5
          refine hr G2 H2 a xs as vs2 asv w xs' Q s2.sub ha2 hra2 ra eF fun v us' rv rvs => ?_
          obtain ⟨Os3, s3, t3⟩ := f2.upd s2 (Ow := []) (y := .lst true xs') (O1' := [a]) (o := .lst us') List.mem_cons_self ⟨a, us', rfl, rfl, upd_same, rvs⟩ (by simp) (fun b hb => .inl hb) (by rw [List.append_nil]; exact s2.nd) (fun _ z => nomatch z)
          rw [List.append_nil] at t3
          rw [putAt_of b1] at q
          refine q v G2 _ Os3 [] s3 (RO.ofF rv) (OwnK.nil s3) ?_
          show Step G H Os2.flatten G2 _ (Os3.flatten ++ [])
          rw [List.append_nil]
          have u1 : Step G H Os2.flatten G1 H1 Os2.flatten := (Stp.gen t1).less fun x hx => List.mem_append_left _ hx
          have u2 : Step G1 H1 Os2.flatten G2 H2 Os2.flatten := (Stp.gen t2).less fun x hx => List.mem_append_left _ hx
          exact (u1.trans u2).trans t3
theorem me_mutP {Z : Zt} {o e : Expr} {es : List Expr} {i : Nat} {F : MutF} {mp : Sm (List Nat)} {m : Sm (List W)} {name : Str} {id : String} {apos cpos : Pos} (slot : Slot "list" name id) (hty : typeOf (.builtin id) = pure (.type "method_descriptor")) (hm : MutS Z id F) (ho : MP Z o i mp) (ha : MA Z (e :: es) m true)
    (hbase : attributeBase o name Z.X.env (eval o Z.X.env) = eval o Z.X.env := by rfl)
    (hfew : ((backTo cpos (starEach (e :: es) Z.X.env)).all (fun x => !x.1) && (backToKw cpos (keywordEach [] Z.X.env)).all (fun x => x.1.isSome)
      && decide ((e :: es).length + ([] : List Keyword).length + (if ([] : List Keyword).isEmpty then 0 else 1) < 30)) = true := by rfl)
    (hline : (apos.endLine == cpos.line) = true := by rfl) (hs : starEach (e :: es) Z.X.env = (false, eval e Z.X.env) :: starEach es Z.X.env := by rfl) (hplain : (backTo cpos (starEach es Z.X.env)).any (·.1) = false := by rfl) :
    ME Z (.Call (.Attribute o name apos) (e :: es) [] cpos) (mMutP i mp F m) false true := by
  obtain ⟨r, h1, h2⟩ := hm
  exact pe_imp (pe_bm PySem.F.plainAttrs_list slot hty h1 ho ha hbase hfew hline hs hplain) fun σ H Q q => tx_mutP h2 q
theorem r_mutP {env : List W} (i : Nat) (mp : Sm (List Nat)) (F : MutF) (m : Sm (List W)) : mMutP i mp F m env = match mp env with
  | .ok p env1 => (match nodeAt i p env1 with
    | some (.lst true xs) => (match m env1 with
      | .ok us _ => (match F xs us with
        | some (w, xs') => .ok w (putAt i p (.lst true xs') env1)
        | none => .bad)
      | .ex c _ => .ex c env1
      | .bad => .bad)
    | _ => .bad)
  | .ex c e' => .ex c e'
  | .bad => .bad := by
  unfold mMutP
  rw [r_bind]
  cases mp env <;> rfl
/-! ### place[ix] = e: e frozen, the place an own list; or an own thing in a list of things -/
def sStoP (i : Nat) (mp : Sm (List Nat)) (mi me : Sm W) : Sm Fl := Sm.bind me fun w env => if w.frz = true then (Sm.bind mp fun p env1 => match nodeAt i p env1 with
  | some (.lst true xs) => (match mi env1 with
    | .ok (.int n) _ => (match ixN xs.length n with
      | some k => .ok .nx (putAt i p (.lst true (xs.set k w)) env1)
      | none => .bad)
    | .ex c _ => .ex c env1
    | _ => .bad)
  | _ => .bad) env else .bad
theorem ms_stoP {Z : Zt} {o ix e : Expr} {i : Nat} {mp : Sm (List Nat)} {mi me : Sm W} {p2 k1 k2 : Bool} {pos spos : Pos} (he : ME Z e me p2 k2) (ho : MP Z o i mp) (hi : ME Z ix mi true k1)
    (ha : ∀ v, assign (.Subscript o ix spos) Z.X.env v = (do
      let ov ← holding [v] (eval o Z.X.env)
      let iv ← holding [v, ov] (eval ix Z.X.env)
      standAt spos
      holding [v, ov, iv] (setItem ov iv v)
      release [v, ov, iv] []) := by intro _; rfl)
    (hs : swapsWithSole [.Subscript o ix spos] e pos.line Z.X.env = pure false := by rfl) (hw : swappedStores [.Subscript o ix spos] e Z.X.env = pure none := by rfl)
    (h1 : (assignEach [.Subscript o ix spos] Z.X.env).map (·.2) = [assign (.Subscript o ix spos) Z.X.env] := by rfl) : MS Z (.Assign [.Subscript o ix spos] e pos) (sStoP i mp mi me) :=
  ps_imp (ps_asg he (pg_sub ho hi set_list ha) hs hw h1) fun E σ H q => by
    obtain ⟨env, G, Os, s, q⟩ := q
    refine ⟨env, G, Os, s, ?_⟩
    unfold sStoP Sm.bind at q
    cases e : me env with
    | bad => rw [e] at q; exact q
    | ex c env1 =>
      rw [e] at q
      exact fun G' H' Os' s' t => q σ G' H' Os' s' t.st (IoS.refl _)
    | ok w env1 =>
      rw [e] at q
      intro v G1 H1 Os1 Ow s1 r o t
      by_cases hf : w.frz = true
      · simp only [if_pos hf] at q
        obtain ⟨rfl, rf⟩ := r.toF hf
        refine ⟨env1, G1, Os1, s1, ?_⟩
        cases e0 : mp env1 with
        | bad => simp only [e0] at q; exact q.elim
        | ex c env2 =>
          simp only [e0] at q
          exact fun G' H' Os' s' t' => q σ G' H' Os' s' (t.st.trans t'.st) (IoS.refl _)
        | ok p env2 =>
          simp only [e0] at q
          cases e2 : nodeAt i p env2 with
          | none => rw [e2] at q; exact q.elim
          | some w1 =>
            have hw : ∃ xs, w1 = .lst true xs := by
              rw [e2] at q
              cases w1 <;> first
                | exact q.elim
                | (rename_i b _; cases b <;> first | exact q.elim | exact ⟨_, rfl⟩)
            obtain ⟨xs, rfl⟩ := hw
            rw [e2] at q
            obtain ⟨w', b1, b2, b3⟩ := nodeAt_some e2
            refine ⟨w', .lst true xs, b1, b2, b3, fun v' u G2 H2 Os2 s2 t2 hv nv => ?_⟩
            obtain ⟨rfl, rfl, t2'⟩ := id t2
            obtain ⟨v0, u0, O1, R, fo⟩ := s2.focus b1 b2 b3
            have ev : v0 = v' := by have := fo.sv; rw [hv] at this; cases this; rfl
            subst ev
            have eu := fo.same s2 hv nv
            subst eu
            refine ⟨env2, G2, Os2, s2, ?_⟩
            cases e3 : mi env2 with
            | bad => simp only [e3] at q; exact q.elim
            | ex c env3 =>
              simp only [e3] at q
              intro G' H' Os' s' t'
              obtain ⟨rfl, rfl, _⟩ := id t'
              exact q σ G' H' Os' s' ((t.st.trans t2.st).trans t'.st) (IoS.refl _)
            | ok j env3 =>
              cases j with
              | int n =>
                simp only [e3] at q
                intro jv G3 H3 Os3 Oj s3 rj oj t3
                obtain ⟨rfl, rfl, t3'⟩ := id t3
                obtain ⟨_, rfl⟩ := rj
                cases e4 : ixN xs.length n with
                | none => rw [e4] at q; exact q.elim
                | some k =>
                  rw [e4] at q
                  obtain ⟨O1', R', f2⟩ := fo.on b1 b2 b3 s3 t3'
                  obtain ⟨a, vs, rfl, rfl, ha2, hra2⟩ := f2.ro
                  have rf3 : RF Z.D G3 w v := RF.mono (t2.gen.mono.trans t3.gen.mono) _ _ rf
                  obtain ⟨Os4, s4, t4⟩ := f2.upd s3 (Ow := []) (y := .lst true (xs.set k w)) (O1' := [a]) (o := .lst (vs.set k v)) List.mem_cons_self ⟨a, _, rfl, rfl, upd_same, hra2.set rf3 k⟩ (by simp) (fun b hb => .inl hb) (by rw [List.append_nil]; exact s3.nd) (fun _ z => nomatch z)
                  rw [List.append_nil] at t4
                  dsimp only at q
                  rw [putAt_of b1] at q
                  exact ⟨a, vs, n, k, rfl, rfl, ha2, by rw [← hra2.len]; exact e4, q σ G3 _ Os4 s4 (((t.st.trans t2.st).trans t3.st).trans t4) (IoS.refl _)⟩
              | _ => simp only [e3] at q; exact q.elim
      · simp only [if_neg hf] at q
        exact q.elim
end Ev

namespace Ev
open PySem PySem.Spec L2

/-! ### methods of a list of things -/
theorem ROs.split {D : Dn} {G H : Hp} : ∀ (n : Nat) {ws : List W} {vs : List V} {O : List Addr}, ROs D G H ws vs O → ∃ O1 O2, O = O1 ++ O2 ∧ ROs D G H (ws.take n) (vs.take n) O1 ∧ ROs D G H (ws.drop n) (vs.drop n) O2
  | 0, ws, vs, O, h => ⟨[], O, rfl, ⟨rfl, rfl⟩, h⟩
  | n + 1, [], vs, O, h => by
    obtain ⟨rfl, rfl⟩ := h
    exact ⟨[], [], rfl, ⟨rfl, rfl⟩, ⟨rfl, rfl⟩⟩
  | n + 1, w :: ws, _, _, h => by
    obtain ⟨v, r, O1, O2, rfl, rfl, h1, h2⟩ := h
    obtain ⟨P1, P2, rfl, k1, k2⟩ := ROs.split n h2
    exact ⟨O1 ++ P1, P2, (List.append_assoc ..).symm, ⟨v, _, O1, P1, rfl, rfl, h1, k1⟩, k2⟩
def MutK (Z : Zt) (id : String) (F : MutF) : Prop := ∃ r, MtR Z.X id r ∧ ∀ (G H : Hp) (a : Addr) (xs ws : List W) (vs us : List V) (O : List Addr) (w : W) (xs' : List W) (Q : VK), Sub G H → H a = some (.lst vs) → ROs Z.D G H xs vs O → O.Nodup → RFs Z.D G ws us → F xs ws = some (w, xs') →
  (∀ v vs' O', (∀ H', (∀ b ∈ O, ∀ o, H b = some o → H' b = some o) → RO Z.D G H' w v [] ∧ ROs Z.D G H' xs' vs' O') → O'.Nodup → (∀ b ∈ O', b ∈ O) → Q v (upd H a (.lst vs'))) → r (.ref a) us H Q
def kPop : MutF := fun xs ws => match ws with
  | [.int i] => if -(2 ^ 63) ≤ i ∧ i < 2 ^ 63 then (seqIndex? i xs.length).bind fun k => if k < xs.length then some (.dead, xs.eraseIdx k) else none else none
  | _ => none
theorem mutK_insert {Z : Zt} : MutK Z "list.insert" fInsert := ⟨_, mt_insert, fun G H a xs ws vs us O w xs' Q s h r1 nd r2 e q => by
  unfold fInsert at e
  split at e
  · rename_i j y
    by_cases hl : xs.length < sizeLine ∧ 0 ≤ j ∧ j < 2 ^ 63
    · rw [if_pos hl] at e
      cases e
      obtain ⟨u, _, rfl, h1, u2, _, rfl, h2, h3⟩ := r2
      cases h3
      cases h1
      refine ⟨a, vs, j, u2, rfl, rfl, h, by rw [← r1.len']; exact hl.1, hl.2.1, hl.2.2, q .non (vs.take j.toNat ++ [u2] ++ vs.drop j.toNat) O (fun H' k => ⟨⟨rfl, rfl⟩, ?_⟩) nd (fun b hb => hb)⟩
      obtain ⟨O1, O2, rfl, k1, k2⟩ := ROs.split j.toNat (ROs.mono (Sub.refl _) _ _ _ k r1)
      have z := ROs.append (ROs.append k1 (show ROs Z.D G H' [y] [u2] [] from ⟨u2, [], [], [], rfl, rfl, RO.ofF h2, rfl, rfl⟩)) k2
      rwa [List.append_nil] at z
    · rw [if_neg hl] at e; cases e
  · cases e⟩
theorem mutK_pop {Z : Zt} : MutK Z "list.pop" kPop := ⟨_, mt_popAt, fun G H a xs ws vs us O w xs' Q s h r1 nd r2 e q => by
  unfold kPop at e
  split at e
  · rename_i j
    by_cases hl : -(2 ^ 63) ≤ j ∧ j < 2 ^ 63
    · rw [if_pos hl] at e
      cases e0 : seqIndex? j xs.length with
      | none => rw [e0] at e; cases e
      | some k =>
        rw [e0, Option.bind_some] at e
        by_cases hk : k < xs.length
        · rw [if_pos hk] at e
          cases e
          rw [r2.int1]
          have hlen := r1.len'
          have e1 : vs[k]? = some (vs[k]'(by rw [← hlen]; exact hk)) := List.getElem?_eq_getElem _
          obtain ⟨O1, O2, rfl, k1, k2⟩ := ROs.split k r1
          obtain ⟨O3, O4, rfl, k3, k4⟩ := ROs.split 1 k2
          rw [List.drop_drop] at k4
          have k4' : ROs Z.D G H (xs.drop (k + 1)) (vs.drop (k + 1)) O4 := by
            have : (vs.drop k).drop 1 = vs.drop (k + 1) := by rw [List.drop_drop]
            rw [this] at k4
            exact k4
          have sub : ∀ b ∈ O1 ++ O4, b ∈ O1 ++ (O3 ++ O4) := fun b hb => by
            rcases List.mem_append.mp hb with z | z
            · exact List.mem_append_left _ z
            · exact List.mem_append_right _ (List.mem_append_right _ z)
          have nd2 : (O1 ++ O4).Nodup := nd.sublist (List.Sublist.append (List.Sublist.refl _) (List.sublist_append_right _ _))
          refine ⟨a, vs, j, k, _, rfl, rfl, h, hl.1, hl.2, by rw [← hlen]; exact e0, e1, q _ (vs.eraseIdx k) (O1 ++ O4) (fun H' kp => ⟨rfl, ?_⟩) nd2 sub⟩
          rw [List.eraseIdx_eq_take_drop_succ, List.eraseIdx_eq_take_drop_succ]
          exact ROs.mono (Sub.refl _) _ _ _ (fun b hb => kp b (sub b hb)) (ROs.append k1 k4')
        · rw [if_neg hk] at e; cases e
    · rw [if_neg hl] at e; cases e
  · cases e⟩
def mMutKP (i : Nat) (mp : Sm (List Nat)) (F : MutF) (m : Sm (List W)) : Sm W := Sm.bind mp fun p env1 => match nodeAt i p env1 with
  | some (.nst xs) => (match m env1 with
    | .ok us _ => (match F xs us with
      | some (w, xs') => .ok w (putAt i p (.nst xs') env1)
      | none => .bad)
    | .ex c _ => .ex c env1
    | .bad => .bad)
  | _ => .bad
theorem tx_mutKP {Z : Zt} {i : Nat} {F : MutF} {mp : Sm (List Nat)} {m : Sm (List W)} {σ : St} {H : Hp} {Q : VK} {r : V → List V → Hp → VK → Prop}
    (hr : ∀ (G H : Hp) (a : Addr) (xs ws : List W) (vs us : List V) (O : List Addr) (w : W) (xs' : List W) (Q : VK), Sub G H → H a = some (.lst vs) → ROs Z.D G H xs vs O → O.Nodup → RFs Z.D G ws us → F xs ws = some (w, xs') →
      (∀ v vs' O', (∀ H', (∀ b ∈ O, ∀ o, H b = some o → H' b = some o) → RO Z.D G H' w v [] ∧ ROs Z.D G H' xs' vs' O') → O'.Nodup → (∀ b ∈ O', b ∈ O) → Q v (upd H a (.lst vs'))) → r (.ref a) us H Q)
    (q : TX Z.D Z.W false true (mMutKP i mp F m) σ H Q) : TP Z.D Z.W i mp σ H fun x H1 => tyV Z.X.K "list" x H1 ∧ TA' Z.D Z.W true m σ H1 fun us H2 => r x us H2 Q := by
  obtain ⟨env, G, Os, s, q⟩ := q
  refine ⟨env, G, Os, s, ?_⟩
  unfold mMutKP Sm.bind at q
  cases e1 : mp env with
  | bad => rw [e1] at q; exact q
  | ex c env1 =>
    rw [e1] at q
    intro G' H' Os' s' t
    obtain ⟨rfl, rfl, _⟩ := id t
    exact q G' H' Os' s' (Stp.gen t)
  | ok p env1 =>
    rw [e1] at q
    dsimp only at q
    cases e2 : nodeAt i p env1 with
    | none => rw [e2] at q; exact q.elim
    | some w1 =>
      have hw : ∃ xs, w1 = .nst xs := by
        rw [e2] at q
        cases w1 <;> first
          | exact q.elim
          | exact ⟨_, rfl⟩
      obtain ⟨xs, rfl⟩ := hw
      rw [e2] at q
      obtain ⟨w', b1, b2, b3⟩ := nodeAt_some e2
      refine ⟨w', .nst xs, b1, b2, b3, fun v u G1 H1 Os1 s1 t1 hv nv => ?_⟩
      obtain ⟨rfl, rfl, t1'⟩ := id t1
      obtain ⟨v0, u0, O1, R, fo⟩ := s1.focus b1 b2 b3
      have ev : v0 = v := by have := fo.sv; rw [hv] at this; cases this; rfl
      subst ev
      have eu := fo.same s1 hv nv
      subst eu
      obtain ⟨a, vs, Oa, rfl, rfl, ha, hra⟩ := id fo.ro
      refine ⟨.inl ⟨rfl, _, SqL.of ha⟩, env1, G1, Os1, s1, ?_⟩
      cases em : m env1 with
      | bad => simp only [em] at q
      | ex c env2 =>
        simp only [em] at q
        intro G' H' Os' s' t
        obtain ⟨rfl, rfl, t'⟩ := id t
        exact q G' H' Os' s' ((Stp.gen t1).less (fun x hx => List.mem_append_left _ (by simpa using hx)) |>.trans (Stp.gen t))
      | ok as env2 =>
        simp only [em] at q
        intro asv G2 H2 Os2 s2 ra t2
        obtain ⟨rfl, rfl, t2'⟩ := id t2
        cases eF : F xs as with
        | none => simp only [eF] at q
        | some ww =>
          obtain ⟨w, xs'⟩ := ww
          simp only [eF] at q
          obtain ⟨O1', R', f2⟩ := fo.on b1 b2 b3 s2 t2'
          obtain ⟨a2, vs2, Ob, e5, rfl, ha2, hra2⟩ := id f2.ro
          cases e5
          have nd1 : (a :: Ob).Nodup := (List.nodup_append.mp (f2.pm.nodup_iff.mpr s2.nd)).2.1
          obtain ⟨na, ndb⟩ := List.nodup_cons.mp nd1
          refine hr G2 H2 a xs as vs2 asv Ob w xs' Q s2.sub ha2 hra2 ndb ra eF fun v us' O' kk nd' sb => ?_
          have keep : ∀ b ∈ Ob, ∀ o, H2 b = some o → (upd H2 a (.lst us')) b = some o := fun b hb o ho => by
            rw [upd_ne (fun e => na (by rw [← e]; exact hb))]
            exact ho
          obtain ⟨kv, kr⟩ := kk _ keep
          have nd3 : (a :: O').Nodup := List.nodup_cons.mpr ⟨fun z => na (sb a z), nd'⟩
          obtain ⟨Os3, s3, t3⟩ := f2.upd s2 (Ow := []) (y := .nst xs') (O1' := a :: O') (o := .lst us') List.mem_cons_self ⟨a, us', O', rfl, rfl, upd_same, kr⟩ nd3 (fun b hb => .inl (by
            rcases List.mem_cons.mp hb with rfl | z
            · exact List.mem_cons_self
            · exact List.mem_cons_of_mem _ (sb b z))) (by rw [List.append_nil]; exact s2.nd) (fun _ z => nomatch z)
          rw [List.append_nil] at t3
          rw [putAt_of b1] at q
          refine q v G2 _ Os3 [] s3 kv (OwnK.nil s3) ?_
          show Step G H Os2.flatten G2 _ (Os3.flatten ++ [])
          rw [List.append_nil]
          have u1 : Step G H Os2.flatten G1 H1 Os2.flatten := (Stp.gen t1).less fun x hx => List.mem_append_left _ hx
          have u2 : Step G1 H1 Os2.flatten G2 H2 Os2.flatten := (Stp.gen t2).less fun x hx => List.mem_append_left _ hx
          exact (u1.trans u2).trans t3
theorem me_mutKP {Z : Zt} {o e : Expr} {es : List Expr} {i : Nat} {F : MutF} {mp : Sm (List Nat)} {m : Sm (List W)} {name : Str} {id : String} {apos cpos : Pos} (slot : Slot "list" name id) (hty : typeOf (.builtin id) = pure (.type "method_descriptor")) (hm : MutK Z id F) (ho : MP Z o i mp) (ha : MA Z (e :: es) m true)
    (hbase : attributeBase o name Z.X.env (eval o Z.X.env) = eval o Z.X.env := by rfl)
    (hfew : ((backTo cpos (starEach (e :: es) Z.X.env)).all (fun x => !x.1) && (backToKw cpos (keywordEach [] Z.X.env)).all (fun x => x.1.isSome)
      && decide ((e :: es).length + ([] : List Keyword).length + (if ([] : List Keyword).isEmpty then 0 else 1) < 30)) = true := by rfl)
    (hline : (apos.endLine == cpos.line) = true := by rfl) (hs : starEach (e :: es) Z.X.env = (false, eval e Z.X.env) :: starEach es Z.X.env := by rfl) (hplain : (backTo cpos (starEach es Z.X.env)).any (·.1) = false := by rfl) :
    ME Z (.Call (.Attribute o name apos) (e :: es) [] cpos) (mMutKP i mp F m) false true := by
  obtain ⟨r, h1, h2⟩ := hm
  exact pe_imp (pe_bm PySem.F.plainAttrs_list slot hty h1 ho ha hbase hfew hline hs hplain) fun σ H Q q => tx_mutKP h2 q
theorem r_mutKP {env : List W} (i : Nat) (mp : Sm (List Nat)) (F : MutF) (m : Sm (List W)) : mMutKP i mp F m env = match mp env with
  | .ok p env1 => (match nodeAt i p env1 with
    | some (.nst xs) => (match m env1 with
      | .ok us _ => (match F xs us with
        | some (w, xs') => .ok w (putAt i p (.nst xs') env1)
        | none => .bad)
      | .ex c _ => .ex c env1
      | .bad => .bad)
    | _ => .bad)
  | .ex c e' => .ex c e'
  | .bad => .bad := by
  unfold mMutKP
  rw [r_bind]
  cases mp env <;> rfl
section
variable {env : List W}
theorem r_pV (i : Nat) : pV i env = match env[i]? with
  | some w => if lvW w = true then .ok [] env else .bad
  | none => .bad := rfl
theorem r_pI (i : Nat) (m : Sm (List Nat)) (mi : Sm W) : pI i m mi env = match m env with
  | .ok p env1 => (match nodeAt i p env1 with
    | some (.nst ws) => (match mi env1 with
      | .ok (.int n) _ => (match ixN ws.length n with
        | some k => .ok (p ++ [k]) env1
        | none => .bad)
      | .ex c _ => .ex c env1
      | _ => .bad)
    | _ => .bad)
  | .ex c e' => .ex c e'
  | .bad => .bad := by
  unfold pI
  rw [r_bind]
  cases m env <;> rfl
theorem r_pF (c i : Nat) (f : Str) (m : Sm (List Nat)) : pF c i f m env = match m env with
  | .ok p env1 => (match nodeAt i p env1 with
    | some (.obj c' fs _) => if c' = c then (match fIx fs f with
      | some k => .ok (p ++ [k]) env1
      | none => .bad) else .bad
    | _ => .bad)
  | .ex c e' => .ex c e'
  | .bad => .bad := by
  unfold pF
  rw [r_bind]
  cases m env <;> rfl
theorem r_stoP (i : Nat) (mp : Sm (List Nat)) (mi me : Sm W) : sStoP i mp mi me env = match me env with
  | .ok w env0 => if w.frz = true then (match mp env0 with
    | .ok p env1 => (match nodeAt i p env1 with
      | some (.lst true xs) => (match mi env1 with
        | .ok (.int n) _ => (match ixN xs.length n with
          | some k => .ok .nx (putAt i p (.lst true (xs.set k w)) env1)
          | none => .bad)
        | .ex c _ => .ex c env1
        | _ => .bad)
      | _ => .bad)
    | .ex c e' => .ex c e'
    | .bad => .bad) else .bad
  | .ex c e' => .ex c e'
  | .bad => .bad := by
  unfold sStoP
  rw [r_bind]
  cases me env with
  | ok w env0 =>
    dsimp only
    split
    · rw [r_bind]
      cases mp env0 <;> rfl
    · rfl
  | _ => rfl
theorem node_nil (i : Nat) : nodeAt i [] env = match env[i]? with
  | some w => if lvW w = true then some w else none
  | none => none := by
  unfold nodeAt
  cases env[i]? <;> rfl
theorem node_cons (i k : Nat) (p : List Nat) : nodeAt i (k :: p) env = match env[i]? with
  | some w => if lvW w = true then getP w (k :: p) else none
  | none => none := rfl
theorem getP_nil (w : W) : getP w [] = some w := rfl
theorem getP_nst (ws : List W) (k : Nat) (p : List Nat) : getP (.nst ws) (k :: p) = match ws[k]? with
  | some x => getP x p
  | none => none := rfl
theorem getP_obj (c : Nat) (fs : List Str) (ws : List W) (k : Nat) (p : List Nat) : getP (.obj c fs ws) (k :: p) = match ws[k]? with
  | some x => getP x p
  | none => none := rfl
theorem setP_nil (w y : W) : setP w [] y = y := rfl
theorem setP_nst (ws : List W) (k : Nat) (p : List Nat) (y : W) : setP (.nst ws) (k :: p) y = match ws[k]? with
  | some x => .nst (ws.set k (setP x p y))
  | none => .nst ws := rfl
theorem setP_obj (c : Nat) (fs : List Str) (ws : List W) (k : Nat) (p : List Nat) (y : W) : setP (.obj c fs ws) (k :: p) y = match ws[k]? with
  | some x => .obj c fs (ws.set k (setP x p y))
  | none => .obj c fs ws := rfl
theorem put_at (i : Nat) (p : List Nat) (y : W) : putAt i p y env = match env[i]? with
  | some w => env.set i (setP w p y)
  | none => env := rfl
theorem lv_nst (ws : List W) : lvW (.nst ws) = true := rfl
theorem lv_obj (c : Nat) (fs : List Str) (ws : List W) : lvW (.obj c fs ws) = true := rfl
theorem lv_lst (b : Bool) (ws : List W) : lvW (.lst b ws) = true := rfl
theorem lv_dct (b : Bool) (ks : DKs) (ws : List W) : lvW (.dct b ks ws) = true := rfl
theorem lv_int (n : Int) : lvW (.int n) = true := rfl
end
end Ev

namespace Ev
open PySem PySem.Spec L2

/-! ### o.m(..): a method of an object in a slot -/
/-- what is asked of the object ahead of the arguments -/
def tRecv (C : Addr) (nm : Str) (ta : TE) (k : V → St → Hp → VK → Prop) : TE := fun σ H Q => ta σ H fun x H1 => ∃ a dx fs, x = .ref a ∧ H1 a = some (.ins C dx fs) ∧ fs.lookup nm = none ∧ k x σ H1 Q
section
variable {X : Cx} {CT : CXT} {lv : Nat} {C g : Addr} {gd : FuncData} {ps : List Str} {sp : Sp} {E : St → XK} {nm : Str} {o e : Expr} {es : List Expr} {ta : TE} {t : TA} {ap p : Pos} {pl : Sem Bool}
theorem pe_om (ho : PE X o ta) (cl : Cls X.K C) (me : Meth X.K C nm g) (F : FnOk X.prog X.w X.K X.mg X.base CT lv g gd ps sp) (rm : Room lv X.A) (bd : Binds X.K gd ps []) (px : ∀ σ, PassesAt CT X σ (E σ)) (hargs : PA X (e :: es) t)
    (s1 : starEach (e :: es) X.env = (false, eval e X.env) :: starEach es X.env := by rfl) (s2 : (backTo p (starEach es X.env)).any (·.1) = false := by rfl)
    (tree : eval (.Call (.Attribute o nm ap) (e :: es) [] p) X.env = (do
      let w0 ← eval o X.env
      standAt ap.atName
      let (g0, us0) ← holding [w0] (getMethod w0 nm pl)
      callWith p g0 us0 (backTo p (starEach (e :: es) X.env)) (backToKw p (keywordEach [] X.env))) := by rfl) :
    PE X (.Call (.Attribute o nm ap) (e :: es) [] p) (tRecv C nm ta fun x σ H Q => t σ H fun vs H' => sp (x :: vs) H' Q (E σ)) := ⟨fun pins sh σ H Q inv ask => by
  apply PySem.W.methodCall_KW (pl := pl) (he := tree)
  apply thn (ho.run pins sh σ H _ inv ask)
  rintro uv sh1 ⟨_, H1, inv1, rl, a, dx, fs, rfl, hin, hno, ask1⟩
  cases rl
  apply getmeth_ok inv1 hin cl me hno
  apply PySem.W.callWith_K (first := [Value.ref a]) (h₀ := X.base) inv1.ok.mod.kin me.kp (he := s1) (hplain := s2)
  apply thn (hargs.run p pins sh1 σ H1 _ inv1 ask1)
  rintro us sh2 ⟨vs, H2, inv2, rv, ask2⟩
  exact ⟨inv2.kIn, run_fnS (us := Value.ref a :: us) (vs := V.ref a :: vs) F rm bd (px σ) inv2 (.cons rfl rv) ask2⟩⟩
theorem pe_om0 (ho : PE X o ta) (cl : Cls X.K C) (me : Meth X.K C nm g) (F : FnOk X.prog X.w X.K X.mg X.base CT lv g gd ps sp) (rm : Room lv X.A) (bd : Binds X.K gd ps []) (px : ∀ σ, PassesAt CT X σ (E σ))
    (tree : eval (.Call (.Attribute o nm ap) [] [] p) X.env = (do
      let w0 ← eval o X.env
      standAt ap.atName
      let (g0, us0) ← holding [w0] (getMethod w0 nm pl)
      callWith p g0 us0 (backTo p (starEach [] X.env)) (backToKw p (keywordEach [] X.env))) := by rfl) :
    PE X (.Call (.Attribute o nm ap) [] [] p) (tRecv C nm ta fun x σ H Q => sp [x] H Q (E σ)) := ⟨fun pins sh σ H Q inv ask => by
  apply PySem.W.methodCall_KW (pl := pl) (he := tree)
  apply thn (ho.run pins sh σ H _ inv ask)
  rintro uv sh1 ⟨_, H1, inv1, rl, a, dx, fs, rfl, hin, hno, ask1⟩
  cases rl
  apply getmeth_ok inv1 hin cl me hno
  exact PySem.W.callWith_K0 (first := [Value.ref a]) inv1.kIn me.kp (run_fnS (us := [Value.ref a]) (vs := [V.ref a]) F rm bd (px σ) inv1 (.cons rfl .nil) ask1)⟩
end
/-- a call's promise, from what is known behind it -/
theorem call_core {D : Dn} {σ : St} {n : Nat} {g : Fn} {as : List AV} {env1 : List W} {vs : List V} {G1 H1 : Hp} {Os1 : List (List Addr)} {Q : VK} {E : XK} (s1 : StOk D G1 H1 env1 σ Os1) (r1 : AVs D G1 σ as vs) (hl : as.length = n)
    (q : match takeA env1 as with
      | none => False
      | some (ws, env0) => match g ws with
        | .ok w ws' => ∀ v G' H' Os' Ow, StOk D G' H' (putA env0 as ws') σ Os' → RO D G' H' w v Ow → OwnK true Os' Ow G' → Step G1 H1 Os1.flatten G' H' (Os'.flatten ++ Ow) → Q v H'
        | .ex c ws' => ∀ G' H' Os', StOk D G' H' (putA env0 as ws') σ Os' → Step G1 H1 Os1.flatten G' H' Os'.flatten → E (.ref (D.CA c)) none H'
        | .bad => False) : spOf D n g vs H1 Q E := by
  cases e2 : takeA env1 as with
  | none => rw [e2] at q; exact q.elim
  | some qq =>
    obtain ⟨ws, env0⟩ := qq
    simp only [e2] at q
    obtain ⟨Os0, O, a1, a2, a3⟩ := takeA_ok s1.sl r1 e2
    have ndO : (Os0.flatten ++ O).Nodup := a3.nodup_iff.mpr s1.nd
    have inO : ∀ a ∈ O, a ∈ Os1.flatten := fun a ha => a3.mem_iff.mp (List.mem_append_right _ ha)
    have in0 : ∀ a ∈ Os0.flatten, a ∈ Os1.flatten := fun a ha => a3.mem_iff.mp (List.mem_append_left _ ha)
    have no0 : ∀ a ∈ Os0.flatten, a ∉ O := fun a ha hb => (List.nodup_append.mp ndO).2.2 a ha a hb rfl
    refine ⟨by rw [← r1.len]; exact hl, ws, G1, O, s1.sub, a2, (List.nodup_append.mp ndO).2.1, fun a ha => s1.gn a (inO a ha), ?_⟩
    have after : ∀ {ws' : List W} {G' H' : Hp} {O' Ow : List Addr}, Sub G' H' → ROs D G' H' ws' vs O' → (O' ++ Ow).Nodup → (∀ a ∈ O' ++ Ow, G' a = none) → Step G1 H1 O G' H' (O' ++ Ow) →
        ∃ Os', StOk D G' H' (putA env0 as ws') σ Os' ∧ (Os'.flatten ++ Ow).Nodup ∧ Step G1 H1 Os1.flatten G' H' (Os'.flatten ++ Ow) := by
      intro ws' G' H' O' Ow sub ro nd gn st
      have s0 : Sl D G' H' env0 σ Os0 := a1.mono st.mono fun a ha o ho => st.keep a o ho (no0 a ha)
      have nd0 : (Os0.flatten ++ (O' ++ Ow)).Nodup := by
        refine List.nodup_append.mpr ⟨(List.nodup_append.mp ndO).1, nd, fun a ha b hb eab => ?_⟩
        subst eab
        rcases st.new a hb with z | z
        · exact no0 a ha z
        · obtain ⟨o, ho⟩ := s1.there a (in0 a ha)
          rw [ho] at z; cases z
      obtain ⟨Os', b1, b2, b3⟩ := putA_ok s0 (r1.mono st.mono) ro nd0
      have gn0 : ∀ a ∈ Os0.flatten, G' a = none := fun a ha => by
        obtain ⟨o, ho, nt⟩ := s1.thn a (in0 a ha)
        exact st.gnew a o ho (no0 a ha) nt (s1.gn a (in0 a ha))
      refine ⟨Os', ⟨b1, sub, fun a ha => ?_, (List.nodup_append.mp b2).1⟩, b2, ⟨st.mono, fun a o h1 h2 => st.keep a o h1 fun z => h2 (inO a z), fun a o h1 h2 nt => st.gnew a o h1 (fun z => h2 (inO a z)) nt, fun a ha => ?_⟩⟩
      · rcases b3 a ha with z | z
        · exact gn0 a z
        · exact gn a (List.mem_append_left _ z)
      · rcases List.mem_append.mp ha with z | z
        · rcases b3 a z with y | y
          · exact .inl (in0 a y)
          · exact (st.new a (List.mem_append_left _ y)).imp (inO a) id
        · exact (st.new a (List.mem_append_right _ z)).imp (inO a) id
    cases e3 : g ws with
    | bad => simp only [e3] at q
    | ex c ws' =>
      simp only [e3] at q
      intro G' H' O' sub ro nd gn st
      obtain ⟨Os', c1, c2, c3⟩ := after (Ow := []) sub ro (by rw [List.append_nil]; exact nd) (by rw [List.append_nil]; exact gn) (by rw [List.append_nil]; exact st)
      rw [List.append_nil] at c3
      exact q G' H' Os' c1 c3
    | ok w ws' =>
      simp only [e3] at q
      intro v G' H' O' Ow sub ro r nd gn st
      obtain ⟨Os', c1, c2, c3⟩ := after sub ro nd gn st
      exact q v G' H' Os' Ow c1 r ⟨c2, fun a ha => gn a (List.mem_append_right _ ha)⟩ c3
/-- a method of the class with the number c: its name, parameters (with self), level, function -/
def FnM (P : Program) (w : World) (K : PySem.W.Frag) (mg : Str → Option Value) (base : Heap) (CA : Nat → Addr) (c : Nat) (x : Str) (n k : Nat) (g : Fn) : Prop :=
  ∃ (f : Addr) (fd : FuncData) (ps : List Str), FnOk P w K mg base (L2.CX P w) k f fd ps (spOf ⟨K, CA⟩ n g) ∧ Cls K (CA c) ∧ Meth K (CA c) x f ∧ Binds K fd ps []
abbrev FMZ (Z : Zt) (c : Nat) (x : Str) (n k : Nat) (g : Fn) : Prop := FnM Z.X.prog Z.X.w Z.X.K Z.X.mg Z.X.base Z.CA c x n k g
/-- an object of the class c without a field of that name stands in the slot -/
def isRecv (c : Nat) (nm : Str) (i : Nat) (env : List W) : Bool := match env[i]? with
  | some (.obj c' fs _) => decide (c' = c) && (fIx fs nm).isNone
  | _ => false
def mCallM (c : Nat) (nm : Str) (g : Fn) (n i : Nat) (m : Sm (List AV)) : Sm W := fun env => if isRecv c nm i env = true then mCall g n (Sm.bind m fun as => Sm.ret (.io i :: as)) env else .bad
theorem fIx_none {α : Type} : ∀ {fs : List Str} {vs : List α} {f : Str}, fIx fs f = none → (fs.zip vs).lookup f = none
  | [], _, _, _ => rfl
  | g :: fs, [], _, _ => rfl
  | g :: fs, v :: vs, f, h => by
    unfold fIx at h
    rw [List.zip_cons_cons, List.lookup_cons]
    by_cases c : (f == g) = true
    · rw [if_pos c] at h; cases h
    · rw [if_neg c] at h
      have c' : (f == g) = false := by simpa using c
      rw [c']
      exact fIx_none (vs := vs) (by
        cases e : fIx fs f with
        | none => rfl
        | some k => rw [e] at h; cases h)
theorem isRecv_at {D : Dn} {G H : Hp} {env : List W} {σ : St} {Os : List (List Addr)} {c i : Nat} {nm : Str} (s : StOk D G H env σ Os) (h : isRecv c nm i env = true) : ∃ a dx fs, σ[i]? = some (some (.ref a)) ∧ H a = some (.ins (D.CA c) dx fs) ∧ fs.lookup nm = none := by
  unfold isRecv at h
  cases e : env[i]? with
  | none => rw [e] at h; cases h
  | some w =>
    have hw : ∃ c' fs ws, w = .obj c' fs ws := by
      rw [e] at h
      cases w <;> first
        | cases h
        | exact ⟨_, _, _, rfl⟩
    obtain ⟨c', fs, ws, rfl⟩ := hw
    rw [e] at h
    have h' : decide (c' = c) = true ∧ (fIx fs nm).isNone = true := Bool.and_eq_true_iff.mp h
    have ec := of_decide_eq_true h'.1
    subst ec
    obtain ⟨sv, O, h1, h2, h3⟩ := s.sl.at e
    rcases h3 with ⟨v, rfl, a, dx, vs, O', rfl, rfl, hl, ha, hr⟩ | ⟨z, _⟩
    · exact ⟨a, dx, _, h1, ha, fIx_none (Option.isNone_iff_eq_none.mp h'.2)⟩
    · cases z
section
variable {Z : Zt} {c n k i : Nat} {nm : Str} {g : Fn} {o e : Expr} {es : List Expr} {p : Bool} {ap cp : Pos} {pl : Sem Bool}
theorem me_callM {m : Sm (List AV)} (F : FMZ Z c nm n k g) (hr : Room k Z.X.A) (tk : Takes Z.X Z.W) (ho : PE Z.X o (tVar i)) (ha : MAr Z (e :: es) m p)
    (h1 : starEach (e :: es) Z.X.env = (false, eval e Z.X.env) :: starEach es Z.X.env := by rfl) (h2 : (backTo cp (starEach es Z.X.env)).any (·.1) = false := by rfl)
    (tree : eval (.Call (.Attribute o nm ap) (e :: es) [] cp) Z.X.env = (do
      let w0 ← eval o Z.X.env
      standAt ap.atName
      let (g0, us0) ← holding [w0] (getMethod w0 nm pl)
      callWith cp g0 us0 (backTo cp (starEach (e :: es) Z.X.env)) (backToKw cp (keywordEach [] Z.X.env))) := by rfl) :
    ME Z (.Call (.Attribute o nm ap) (e :: es) [] cp) (mCallM c nm g n i m) false true := by
  obtain ⟨f, fd, ps, F, hc, hm, hb⟩ := F
  refine pe_imp (pe_om (pl := pl) ho hc hm F hr hb (fun σ => passAt tk σ) ha h1 h2 tree) fun σ H Q q => ?_
  obtain ⟨env, G, Os, s, q⟩ := q
  unfold mCallM at q
  by_cases hi : isRecv c nm i env = true
  · rw [if_pos hi] at q
    obtain ⟨a, dx, fs, x1, x2, x3⟩ := isRecv_at s hi
    refine ⟨.ref a, x1, a, dx, fs, rfl, x2, x3, env, G, Os, s, ?_⟩
    unfold mCall Sm.bind at q
    cases e1 : m env with
    | bad => simp only [e1] at q
    | ex c env1 =>
      simp only [e1] at q
      exact fun G' H' Os' s' t => q G' H' Os' s' t.gen
    | ok as env1 =>
      simp only [e1, Sm.ret] at q
      intro vs G1 H1 Os1 s1 r1 t1
      by_cases hl : (AV.io i :: as).length = n
      · rw [if_pos hl] at q
        have t1' : Step G H Os.flatten G1 H1 Os1.flatten := t1.gen.less fun a ha => List.mem_append_left _ ha
        refine call_core (as := .io i :: as) s1 ⟨.ref a, vs, rfl, x1, r1⟩ hl ?_
        cases e2 : takeA env1 (.io i :: as) with
        | none => simp only [e2] at q
        | some qq =>
          obtain ⟨ws, env0⟩ := qq
          simp only [e2] at q ⊢
          cases e3 : g ws with
          | bad => simp only [e3] at q
          | ex c ws' =>
            simp only [e3] at q ⊢
            exact fun G' H' Os' s' t => q G' H' Os' s' (by
              show Step G H Os.flatten G' H' (Os'.flatten ++ [])
              rw [List.append_nil]; exact t1'.trans t)
          | ok w ws' =>
            simp only [e3] at q ⊢
            exact fun v G' H' Os' Ow s' r o t => q v G' H' Os' Ow s' r o (t1'.trans t)
      · rw [if_neg hl] at q; exact q.elim
  · rw [if_neg hi] at q; exact q.elim
theorem me_callM0 (F : FMZ Z c nm n k g) (hr : Room k Z.X.A) (tk : Takes Z.X Z.W) (ho : PE Z.X o (tVar i))
    (tree : eval (.Call (.Attribute o nm ap) [] [] cp) Z.X.env = (do
      let w0 ← eval o Z.X.env
      standAt ap.atName
      let (g0, us0) ← holding [w0] (getMethod w0 nm pl)
      callWith cp g0 us0 (backTo cp (starEach [] Z.X.env)) (backToKw cp (keywordEach [] Z.X.env))) := by rfl) :
    ME Z (.Call (.Attribute o nm ap) [] [] cp) (mCallM c nm g n i rNil) false true := by
  obtain ⟨f, fd, ps, F, hc, hm, hb⟩ := F
  refine pe_imp (pe_om0 (pl := pl) ho hc hm F hr hb (fun σ => passAt tk σ) tree) fun σ H Q q => ?_
  obtain ⟨env, G, Os, s, q⟩ := q
  unfold mCallM at q
  by_cases hi : isRecv c nm i env = true
  · rw [if_pos hi] at q
    obtain ⟨a, dx, fs, x1, x2, x3⟩ := isRecv_at s hi
    refine ⟨.ref a, x1, a, dx, fs, rfl, x2, x3, ?_⟩
    unfold mCall Sm.bind rNil Sm.ret at q
    dsimp only at q
    by_cases hl : [AV.io i].length = n
    · rw [if_pos hl] at q
      refine call_core (as := [.io i]) s ⟨.ref a, [], rfl, x1, rfl⟩ hl ?_
      cases e2 : takeA env [.io i] with
      | none => simp only [e2] at q
      | some qq =>
        obtain ⟨ws, env0⟩ := qq
        simp only [e2] at q ⊢
        cases e3 : g ws with
        | bad => simp only [e3] at q
        | ex c ws' =>
          simp only [e3] at q ⊢
          exact fun G' H' Os' s' t => q G' H' Os' s' (by
            show Step G H Os.flatten G' H' (Os'.flatten ++ [])
            rw [List.append_nil]; exact t)
        | ok w ws' =>
          simp only [e3] at q ⊢
          exact fun v G' H' Os' Ow s' r o t => q v G' H' Os' Ow s' r o t
    · rw [if_neg hl] at q; exact q.elim
  · rw [if_neg hi] at q; exact q.elim
end
theorem r_callM {env : List W} (c : Nat) (nm : Str) (g : Fn) (n i : Nat) (m : Sm (List AV)) : mCallM c nm g n i m env = if isRecv c nm i env = true then mCall g n (Sm.bind m fun as => Sm.ret (.io i :: as)) env else .bad := rfl
end Ev

namespace Ev
open PySem PySem.Spec L2

/-! ### place.f = e -/
theorem putF_some {f : Str} {y : V} : ∀ {fs : List Str} {vs : List V} {j : Nat}, fs.length = vs.length → fIx fs f = some j → putF f y (fs.zip vs) = fs.zip (vs.set j y)
  | [], _, _, _, h => by cases h
  | g :: fs, [], _, hl, _ => nomatch hl
  | g :: fs, v :: vs, j, hl, h => by
    unfold fIx at h
    rw [List.zip_cons_cons]
    unfold putF
    by_cases c : (f == g) = true
    · rw [if_pos c] at h
      cases h
      have e : g = f := (eq_of_beq c).symm
      rw [if_pos e, List.set_cons_zero, List.zip_cons_cons]
    · rw [if_neg c] at h
      have e : ¬ g = f := fun z => c (by rw [z]; exact beq_self_eq_true f)
      rw [if_neg e]
      cases e1 : fIx fs f with
      | none => rw [e1] at h; cases h
      | some k =>
        rw [e1] at h
        cases h
        rw [putF_some (Nat.succ.inj hl) e1, List.set_cons_succ, List.zip_cons_cons]
theorem putF_none {f : Str} {y : V} : ∀ {fs : List Str} {vs : List V}, fs.length = vs.length → fIx fs f = none → putF f y (fs.zip vs) = (fs ++ [f]).zip (vs ++ [y])
  | [], [], _, _ => rfl
  | [], _ :: _, hl, _ => nomatch hl
  | g :: fs, [], hl, _ => nomatch hl
  | g :: fs, v :: vs, hl, h => by
    unfold fIx at h
    rw [List.zip_cons_cons]
    unfold putF
    by_cases c : (f == g) = true
    · rw [if_pos c] at h; cases h
    · rw [if_neg c] at h
      have e : ¬ g = f := fun z => c (by rw [z]; exact beq_self_eq_true f)
      have h' : fIx fs f = none := by
        cases e1 : fIx fs f with
        | none => rfl
        | some k => rw [e1] at h; cases h
      rw [if_neg e, putF_none (Nat.succ.inj hl) h', List.cons_append, List.cons_append, List.zip_cons_cons]
theorem ROs.setV {D : Dn} {G H : Hp} {w : W} {y : V} {Ow : List Addr} (rw_ : RO D G H w y Ow) : ∀ {ws : List W} {vs : List V} {O : List Addr} {j : Nat}, ROs D G H ws vs O → j < ws.length → ∃ R O1 O', (R ++ O1).Perm O ∧ ROs D G H (ws.set j w) (vs.set j y) O' ∧ O'.Perm (R ++ Ow)
  | [], _, _, _, _, h => by simp at h
  | x :: ws, _, _, 0, h, _ => by
    obtain ⟨v, r, O1, O2, rfl, rfl, h1, h2⟩ := h
    exact ⟨O2, O1, Ow ++ O2, List.perm_append_comm, ⟨y, r, Ow, O2, rfl, rfl, rw_, h2⟩, List.perm_append_comm⟩
  | x :: ws, _, _, j + 1, h, hj => by
    obtain ⟨v, r, O1, O2, rfl, rfl, h1, h2⟩ := h
    obtain ⟨R, Ox, O', e1, e2, e3⟩ := ROs.setV rw_ h2 (by simpa using hj)
    exact ⟨O1 ++ R, Ox, O1 ++ O', by rw [List.append_assoc]; exact List.Perm.append_left _ e1, ⟨v, _, O1, O', rfl, rfl, h1, e2⟩, by rw [List.append_assoc]; exact List.Perm.append_left _ e3⟩
def fPut (fs : List Str) (ws : List W) (f : Str) (w : W) : List Str × List W := match fIx fs f with
  | some j => (fs, ws.set j w)
  | none => (fs ++ [f], ws ++ [w])
theorem fPut_ok {D : Dn} {G H : Hp} {fs : List Str} {ws : List W} {vs : List V} {O Ow : List Addr} {f : Str} {w : W} {y : V} (h : ROs D G H ws vs O) (hl : fs.length = vs.length) (r : RO D G H w y Ow) (nd : (O ++ Ow).Nodup) :
    ∃ us O', putF f y (fs.zip vs) = (fPut fs ws f w).1.zip us ∧ (fPut fs ws f w).1.length = us.length ∧ ROs D G H (fPut fs ws f w).2 us O' ∧ O'.Nodup ∧ ∀ a ∈ O', a ∈ O ∨ a ∈ Ow := by
  unfold fPut
  cases e : fIx fs f with
  | some j =>
    obtain ⟨_, hj⟩ := fIx_lookup hl e
    have hw := h.len'
    obtain ⟨R, O1, O', e1, e2, e3⟩ := ROs.setV r h (j := j) (by omega)
    refine ⟨vs.set j y, O', putF_some hl e, by rw [List.length_set]; exact hl, e2, ?_, fun a ha => ?_⟩
    · refine e3.nodup_iff.mpr ?_
      have nd2 : (R ++ O1 ++ Ow).Nodup := (List.Perm.append_right Ow e1).nodup_iff.mpr nd
      rw [List.append_assoc] at nd2
      exact nd2.sublist (List.Sublist.append (List.Sublist.refl _) (List.sublist_append_right _ _))
    · rcases List.mem_append.mp (e3.mem_iff.mp ha) with z | z
      · exact .inl (e1.mem_iff.mp (List.mem_append_left _ z))
      · exact .inr z
  | none =>
    refine ⟨vs ++ [y], O ++ Ow, putF_none hl e, by rw [List.length_append, List.length_append]; simp [hl], ?_, nd, fun a ha => List.mem_append.mp ha⟩
    have z := ROs.append h (show ROs D G H [w] [y] Ow from ⟨y, [], Ow, [], rfl, (List.append_nil _).symm, r, rfl, rfl⟩)
    exact z
def sFldP (c i : Nat) (f : Str) (k : Bool) (mp : Sm (List Nat)) (me : Sm W) : Sm Fl := Sm.bind me fun w env => if (k || w.frz) = true then (Sm.bind mp fun p env1 => match nodeAt i p env1 with
  | some (.obj c' fs ws) => if c' = c ∧ fs.length < 1000 then .ok .nx (putAt i p (.obj c' (fPut fs ws f w).1 (fPut fs ws f w).2) env1) else .bad
  | _ => .bad) env else .bad
theorem ms_fldP {Z : Zt} {o e : Expr} {i c : Nat} {f : Str} {mp : Sm (List Nat)} {me : Sm W} {p2 k : Bool} {pos fpos : Pos} (he : ME Z e me p2 k) (ho : MP Z o i mp) (hc : Cls Z.X.K (Z.CA c)) (hn : NoAttr Z.X.K (Z.CA c) f)
    (hs : swapsWith e (some (.Attribute o f fpos)) pos.line Z.X.env = pure false := by rfl) : MS Z (.Assign [.Attribute o f fpos] e pos) (sFldP c i f k mp me) :=
  ps_imp (ps_fld ho he hs) fun E σ H q => by
    obtain ⟨env, G, Os, s, q⟩ := q
    refine ⟨env, G, Os, s, ?_⟩
    unfold sFldP Sm.bind at q
    cases e : me env with
    | bad => rw [e] at q; exact q
    | ex c env1 =>
      rw [e] at q
      exact fun G' H' Os' s' t => q σ G' H' Os' s' t.st (IoS.refl _)
    | ok w env1 =>
      rw [e] at q
      intro v G1 H1 Os1 Ow s1 r o t
      by_cases hf : (k || w.frz) = true
      · simp only [if_pos hf] at q
        have o1 := frz_own s1 r o hf
        have t0 : Step G H Os.flatten G1 H1 (Os1.flatten ++ Ow) := t.gen.less fun a ha => (List.mem_append.mp ha).elim (List.mem_append_left _) fun z => List.mem_append_right _ (kO_of r hf a z)
        refine ⟨env1, G1, Os1, s1, ?_⟩
        cases e0 : mp env1 with
        | bad => simp only [e0] at q; exact q.elim
        | ex c env2 =>
          simp only [e0] at q
          exact fun G' H' Os' s' t' => q σ G' H' Os' s' ((t0.less fun a ha => List.mem_append_left _ ha).trans t'.st) (IoS.refl _)
        | ok p env2 =>
          simp only [e0] at q
          cases e2 : nodeAt i p env2 with
          | none => rw [e2] at q; exact q.elim
          | some w1 =>
            have hw : ∃ c' fs ws, w1 = .obj c' fs ws := by
              rw [e2] at q
              cases w1 <;> first
                | exact q.elim
                | exact ⟨_, _, _, rfl⟩
            obtain ⟨c', fs, ws, rfl⟩ := hw
            rw [e2] at q
            dsimp only at q
            by_cases hcc : c' = c ∧ fs.length < 1000
            · rw [if_pos hcc] at q
              obtain ⟨rfl, hlen⟩ := hcc
              obtain ⟨w', b1, b2, b3⟩ := nodeAt_some e2
              refine ⟨w', _, b1, b2, b3, fun v' u G2 H2 Os2 s2 t2 hv nv => ?_⟩
              obtain ⟨rfl, rfl, t2'⟩ := id t2
              obtain ⟨v0, u0, O1, R, fo⟩ := s2.focus b1 b2 b3
              have ev : v0 = v' := by have := fo.sv; rw [hv] at this; cases this; rfl
              subst ev
              have eu := fo.same s2 hv nv
              subst eu
              obtain ⟨a, dx, vs, O', rfl, rfl, hl, ha, hr⟩ := id fo.ro
              -- what is stored, in the new state
              have r2 : RO Z.D G2 H2 w v Ow := RO.mono t2'.mono w v Ow (fun b hb x hx => t2'.keep b x hx (fun z => nomatch z)) r
              have gn2 : ∀ b ∈ Ow, G2 b = none := fun b hb => by
                obtain ⟨x, hx, nt⟩ := RO.thn w v Ow r b hb
                exact t2'.gnew b x hx (fun z => nomatch z) nt (o1.2 b hb)
              have nd1 : (a :: O').Nodup := (List.nodup_append.mp (fo.pm.nodup_iff.mpr s2.nd)).2.1
              obtain ⟨na, nd'⟩ := List.nodup_cons.mp nd1
              have dis : ∀ b ∈ Ow, b ∉ Os2.flatten := fun b hb z => (List.nodup_append.mp o1.1).2.2 b z b hb rfl
              have aOw : a ∉ Ow := fun z => dis a z (fo.in1 a List.mem_cons_self)
              have keep : ∀ b, b ≠ a → ∀ x, H2 b = some x → ∀ o, (upd H2 a o) b = some x := fun b hb x hx o => by rw [upd_ne hb]; exact hx
              have nd2 : (O' ++ Ow).Nodup := List.nodup_append.mpr ⟨nd', (List.nodup_append.mp o1.1).2.1, fun x hx y hy e => by
                subst e
                exact dis x hy (fo.in1 x (List.mem_cons_of_mem _ hx))⟩
              refine ⟨a, Z.CA c', dx, fs.zip vs, rfl, ha, hc, hn, by rw [List.length_zip, ← hl, Nat.min_self]; exact hlen, ?_⟩
              have key : ∀ o : HO, ∃ us O'', putF f v (fs.zip vs) = (fPut fs ws f w).1.zip us ∧ (fPut fs ws f w).1.length = us.length ∧ ROs Z.D G2 (upd H2 a o) (fPut fs ws f w).2 us O'' ∧ O''.Nodup ∧ ∀ b ∈ O'', b ∈ O' ∨ b ∈ Ow := fun o =>
                fPut_ok (ROs.mono (Sub.refl _) _ _ _ (fun b hb x hx => keep b (fun e => na (by rw [← e]; exact hb)) x hx o) hr) hl (RO.mono (Sub.refl _) _ _ _ (fun b hb x hx => keep b (fun e => aOw (by rw [← e]; exact hb)) x hx o) r2) nd2
              obtain ⟨us, O'', k1, k2, k3, k4, k5⟩ := key (.ins (Z.CA c') dx (putF f v (fs.zip vs)))
              have naO : a ∉ O'' := fun z => (k5 a z).elim na aOw
              rw [k1] at k3 ⊢
              obtain ⟨Os3, s3, t3⟩ := fo.upd s2 (Ow := Ow) (y := .obj c' (fPut fs ws f w).1 (fPut fs ws f w).2) (O1' := a :: O'') (o := .ins (Z.CA c') dx ((fPut fs ws f w).1.zip us)) List.mem_cons_self ⟨a, dx, us, O'', rfl, rfl, k2, upd_same, k3⟩ (List.nodup_cons.mpr ⟨naO, k4⟩) (fun b hb => by
                rcases List.mem_cons.mp hb with rfl | z
                · exact .inl List.mem_cons_self
                · exact (k5 b z).imp (List.mem_cons_of_mem _) id) o1.1 gn2
              rw [putAt_of b1] at q
              refine q σ G2 _ Os3 s3 ?_ (IoS.refl _)
              have u2 : Step G1 H1 (Os2.flatten ++ Ow) G2 H2 (Os2.flatten ++ Ow) := by
                have z := t2'.pure0 (O := Os2.flatten ++ Ow)
                exact z.less fun x hx => List.mem_append_left _ hx
              exact (t0.trans u2).trans t3
            · rw [if_neg hcc] at q; exact q.elim
      · simp only [if_neg hf] at q
        exact q.elim
theorem r_fldP {env : List W} (c i : Nat) (f : Str) (k : Bool) (mp : Sm (List Nat)) (me : Sm W) : sFldP c i f k mp me env = match me env with
  | .ok w env0 => if (k || w.frz) = true then (match mp env0 with
    | .ok p env1 => (match nodeAt i p env1 with
      | some (.obj c' fs ws) => if c' = c ∧ fs.length < 1000 then .ok .nx (putAt i p (.obj c' (fPut fs ws f w).1 (fPut fs ws f w).2) env1) else .bad
      | _ => .bad)
    | .ex c e' => .ex c e'
    | .bad => .bad) else .bad
  | .ex c e' => .ex c e'
  | .bad => .bad := by
  unfold sFldP
  rw [r_bind]
  cases me env with
  | ok w env0 =>
    dsimp only
    split
    · rw [r_bind]
      cases mp env0 <;> rfl
    · rfl
  | _ => rfl
end Ev

namespace Ev
open PySem PySem.Spec L2

/-! ### C(..): a new object, its arguments lent -/
mutual
/-- own all the way down, flat at the ground -/
def thk : W → Bool
  | .lst true ws => flats ws
  | .nst ws => thks ws
  | .ndc _ ws => thks ws
  | .obj _ _ ws => thks ws
  | .dct true _ ws => flats ws
  | .non => true
  | .bl _ => true
  | .int _ => true
  | .str _ => true
  | .tup ws => flats ws
  | _ => false
def thks : List W → Bool
  | [] => true
  | w :: ws => thk w && thks ws
end
mutual
theorem RO.thk {D : Dn} {G G' H : Hp} (thin : ∀ a xs, SqT D.K G a xs → SqT D.K G' a xs) : ∀ (w : W) (v : V) (O : List Addr), Ev.thk w = true → RO D G H w v O → RO D G' H w v O
  | .lst true ws, v, O, h, r => by
    obtain ⟨a, us, rfl, rfl, k1, k2⟩ := r
    exact ⟨a, us, rfl, rfl, k1, RFs.thin thin _ _ h k2⟩
  | .nst ws, v, O, h, r => by
    obtain ⟨a, us, O', rfl, rfl, k1, k2⟩ := r
    exact ⟨a, us, O', rfl, rfl, k1, ROs.thk thin _ _ _ h k2⟩
  | .ndc ks ws, v, O, h, r => by
    obtain ⟨a, us, O', rfl, rfl, k1, k2⟩ := r
    exact ⟨a, us, O', rfl, rfl, k1, ROs.thk thin _ _ _ h k2⟩
  | .obj c fs ws, v, O, h, r => by
    obtain ⟨a, dx, us, O', rfl, rfl, hl, k1, k2⟩ := r
    exact ⟨a, dx, us, O', rfl, rfl, hl, k1, ROs.thk thin _ _ _ h k2⟩
  | .dct true ks ws, v, O, h, r => by
    obtain ⟨a, us, rfl, rfl, k1, k2⟩ := r
    exact ⟨a, us, rfl, rfl, k1, RFs.thin thin _ _ h k2⟩
  | .non, _, _, _, r => ⟨r.1, r.2⟩
  | .bl _, _, _, _, r => ⟨r.1, r.2⟩
  | .int _, _, _, _, r => ⟨r.1, r.2⟩
  | .str _, _, _, _, r => ⟨r.1, r.2⟩
  | .tup ws, v, O, h, r => ⟨r.1, RF.thin thin (.tup ws) v h r.2⟩
  | .dead, _, _, h, _ => nomatch h
  | .lst false _, _, _, h, _ => nomatch h
  | .scr _, _, _, h, _ => nomatch h
  | .ntp _, _, _, h, _ => nomatch h
  | .dct false _ _, _, _, h, _ => nomatch h
  | .exc _, _, _, h, _ => nomatch h
theorem ROs.thk {D : Dn} {G G' H : Hp} (thin : ∀ a xs, SqT D.K G a xs → SqT D.K G' a xs) : ∀ (ws : List W) (vs : List V) (O : List Addr), thks ws = true → ROs D G H ws vs O → ROs D G' H ws vs O
  | [], _, _, _, r => r
  | w :: ws, _, _, h, r => by
    obtain ⟨v, u, O1, O2, rfl, rfl, h1, h2⟩ := r
    have h' : Ev.thk w = true ∧ thks ws = true := Bool.and_eq_true_iff.mp h
    exact ⟨v, u, O1, O2, rfl, rfl, RO.thk thin w v O1 h'.1 h1, ROs.thk thin ws u O2 h'.2 h2⟩
end
/-- behind the call, what was lent is owned again; what is new stays new -/
theorem unlentO {D : Dn} {G H G' H' : Hp} {env : List W} {σ : L2.St} {Os : List (List Addr)} {Ow : List Addr} (s : StOk D G H env σ Os) (sub : Sub G' H') (t : Step (lentH G H Os.flatten) H [] G' H' Ow) :
    ∃ G2, StOk D G2 H' env σ Os ∧ Step G H [] G2 H' Ow ∧ (∀ a, G' a = none → G2 a = none) ∧ ∀ a xs, SqT D.K G' a xs → SqT D.K G2 a xs := by
  have nt := s.sl.noT
  let G2 : Hp := fun a => if a ∈ Os.flatten then none else G' a
  have g2 : ∀ a, a ∉ Os.flatten → G2 a = G' a := fun a h => if_neg h
  have g0 : ∀ a, a ∈ Os.flatten → G2 a = none := fun a h => if_pos h
  have mono0 : Sub G (lentH G H Os.flatten) := fun a o h => by unfold lentH; rw [h]
  have st : Step G H [] G2 H' Ow := by
    refine ⟨fun a o h => ?_, t.keep, fun a o h hn nt g => ?_, t.new⟩
    · have na : a ∉ Os.flatten := fun z => by rw [s.gn a z] at h; cases h
      rw [g2 a na]; exact t.mono a o (mono0 a o h)
    · by_cases ha : a ∈ Os.flatten
      · exact g0 a ha
      · rw [g2 a ha]
        refine t.gnew a o h hn nt ?_
        unfold lentH
        rw [g]
        show (if a ∈ Os.flatten then H a else none) = none
        rw [if_neg ha]
  have sub2 : Sub G2 H' := fun a o h => by
    by_cases ha : a ∈ Os.flatten
    · rw [g0 a ha] at h; cases h
    · rw [g2 a ha] at h; exact sub a o h
  refine ⟨G2, s.step (st.less (O2 := []) fun _ z => nomatch z) sub2, st, fun a h => ?_, fun a vs q => ?_⟩
  · by_cases ha : a ∈ Os.flatten
    · exact g0 a ha
    · rw [g2 a ha]; exact h
  · rcases q with q | q
    · refine .inl ?_
      by_cases ha : a ∈ Os.flatten
      · exfalso
        obtain ⟨o, ho⟩ := s.there a ha
        have hk := t.keep a o ho (fun z => nomatch z)
        obtain ⟨n1, n2⟩ := nt a ha vs
        rcases q with q | ⟨ob, q⟩
        · have z := sub _ _ q
          rw [hk] at z
          rw [Option.some.inj z] at ho
          exact n1 ho
        · have z := sub _ _ q
          rw [hk] at z
          rw [Option.some.inj z] at ho
          exact n2 ob ho
      · rcases q with q | ⟨ob, q⟩
        · exact .inl (by rw [g2 a ha]; exact q)
        · exact .inr ⟨ob, by rw [g2 a ha]; exact q⟩
    · exact .inr q
/-- a new instance, then its __init__, errors wished for at the slots -/
def tNewI (C : Addr) (sp : Sp) (E : St → XK) (t : TA) : TE := fun σ H Q => t σ H fun vs H1 => ∀ x dx, H1 x = none → H1 dx = none → dx ≠ x → sp (.ref x :: vs) (upd (upd H1 dx (.own x)) x (.ins C dx [])) (fun v H2 => v = .non ∧ Q (.ref x) H2) (E σ)
theorem pe_newC {X : Cx} {CT : CXT} {lv : Nat} {C g : Addr} {gd : FuncData} {ps : List Str} {sp : Sp} {E : St → XK} {nm : Str} {e : Expr} {es : List Expr} {t : TA} {np p : Pos} (mk : Mk X.K C g) (F : FnOk X.prog X.w X.K X.mg X.base CT lv g gd ps sp) (rm : Room (lv + 1) X.A) (gl : Gl X nm) (at_ : X.mg nm = some (.ref C)) (bd : Binds X.K gd ps [])
    (px : ∀ σ, PassesAt CT X σ (E σ)) (hargs : PA X (e :: es) t) (db : (nm == ("__debug__" : Str)) = false := by decide) (s1 : starEach (e :: es) X.env = (false, eval e X.env) :: starEach es X.env := by rfl) (s2 : (backTo p (starEach es X.env)).any (·.1) = false := by rfl) :
    PE X (.Call (.Name nm np) (e :: es) [] p) (tNewI C sp E t) := ⟨fun pins sh σ H Q inv ask => by
  apply wpAny_Call_Name_kw
  apply ld_glob inv gl at_ _ db
  apply PySem.W.callWith_K (h₀ := X.base) inv.ok.mod.kin mk.kp (he := s1) (hplain := s2)
  apply thn (hargs.run p pins sh σ H _ inv ask)
  rintro us sh1 ⟨vs, H1, inv1, rv, ask1⟩
  refine ⟨inv1.kIn, ?_⟩
  have ask2 := ask1 (sh1.heap.objs.size + 1) sh1.heap.objs.size (inv1.hok.fresh (Nat.le_succ _)) (inv1.hok.fresh (Nat.le_refl _)) (Nat.ne_of_lt (Nat.lt_succ_self _))
  have inv2 := Inv.made (C := C) inv1
  have rv2 : Vals (V.ref (sh1.heap.objs.size + 1) :: vs) (Value.ref (sh1.heap.objs.size + 1) :: us) := .cons rfl rv
  have len2 : (Value.ref (sh1.heap.objs.size + 1) :: us).length = ps.length := rv2.length.symm.trans (F.len _ _ _ _ ask2)
  apply wpAny_call
  apply make_map (f := g) inv1.kIn mk.makes mk.init (beq_iff_eq.mp mk.fn)
  apply codeAny_mono (F.run _ X.stack _ _ ⟨Value.ref (sh1.heap.objs.size + 1) :: us, []⟩ (Value.ref (sh1.heap.objs.size + 1) :: us) _ _ (E σ) (rm.make C us []) (inv2.env0.make C us []) (by
    have z := bd _ (Value.ref (sh1.heap.objs.size + 1) :: us) inv2.kIn (by rw [List.append_nil]; exact len2)
    rwa [List.append_nil] at z) rv2 ask2)
  intro out sh2 done
  cases out with
  | error err => exact px σ pins _ _ err sh2 inv2 done
  | ok fl =>
    cases fl with
    | ret u =>
      obtain ⟨v, H2, inv3, ru, ev, fin⟩ := inv2.after done
      cases ev
      exact ⟨ru, ⟨V.ref (sh1.heap.objs.size + 1), H2, inv3, rfl, fin⟩⟩
    | next => cases done
    | brk => cases done
    | cont => cases done⟩
/-- a class by its name: how it is made -/
def FnC (P : Program) (w : World) (K : PySem.W.Frag) (mg : Str → Option Value) (base : Heap) (CA : Nat → Addr) (c : Nat) (x : Str) (n k : Nat) (g : Fn) : Prop :=
  ∃ (f : Addr) (fd : FuncData) (ps : List Str), FnOk P w K mg base (L2.CX P w) k f fd ps (spOf ⟨K, CA⟩ n g) ∧ Mk K (CA c) f ∧ Binds K fd ps [] ∧ mg x = some (.ref (CA c))
abbrev FCZ (Z : Zt) (c : Nat) (x : Str) (n k : Nat) (g : Fn) : Prop := FnC Z.X.prog Z.X.w Z.X.K Z.X.mg Z.X.base Z.CA c x n k g
def mMakeL (c : Nat) (g : Fn) (n : Nat) (m : Sm (List AV)) : Sm W := Sm.bind m fun as env => if as.length + 1 = n then match lendA env as with
  | none => .bad
  | some ws => match g (.obj c [] [] :: ws) with
    | .ok .non (w :: _) => if thk w = true then .ok w env else .bad
    | .ex c' _ => .ex c' env
    | _ => .bad
  else .bad
theorem sub_upd_none {G H : Hp} {p : Addr} {o : HO} (s : Sub G H) (n : H p = none) : Sub G (upd H p o) := sub_upd s n
theorem me_makeL {Z : Zt} {c n k : Nat} {x : Str} {g : Fn} {e : Expr} {es : List Expr} {m : Sm (List AV)} {p : Bool} {np cp : Pos} (F : FCZ Z c x n k g) (hr : Room (k + 1) Z.X.A) (tk : Takes Z.X Z.W) (ha : MAr Z (e :: es) m p) (hg : Gl Z.X x) (hdb : (x == ("__debug__" : Str)) = false := by decide)
    (h1 : starEach (e :: es) Z.X.env = (false, eval e Z.X.env) :: starEach es Z.X.env := by rfl) (h2 : (backTo cp (starEach es Z.X.env)).any (·.1) = false := by rfl) :
    ME Z (.Call (.Name x np) (e :: es) [] cp) (mMakeL c g n m) p true := by
  obtain ⟨f, fd, ps, F, hk, hb, hm⟩ := F
  refine pe_imp (pe_newC hk F hr hg hm hb (fun σ => passAt tk σ) ha hdb h1 h2) fun σ H Q q => ?_
  obtain ⟨env, G, Os, s, q⟩ := q
  refine ⟨env, G, Os, s, ?_⟩
  unfold mMakeL Sm.bind at q
  cases e1 : m env with
  | bad => rw [e1] at q; exact q
  | ex c env1 => rw [e1] at q; exact q
  | ok as env1 =>
    rw [e1] at q
    intro vs G1 H1 Os1 s1 r1 t1 x dx nx ndx nex
    by_cases hl : as.length + 1 = n
    · simp only [if_pos hl] at q
      cases e2 : lendA env1 as with
      | none => simp only [e2] at q
      | some ws =>
        simp only [e2] at q
        let Gl := lentH G1 H1 Os1.flatten
        have subL : Sub Gl H1 := sub_lent s1.sub
        let H2 := upd (upd H1 dx (.own x)) x (.ins (Z.CA c) dx [])
        have nx2 : (upd H1 dx (.own x)) x = none := by rw [upd_ne (Ne.symm nex)]; exact nx
        have subH : Sub H1 H2 := fun b o h => by
          show (upd (upd H1 dx (.own x)) x _) b = some o
          rw [upd_ne (fun e => by rw [e, nx] at h; cases h), upd_ne (fun e => by rw [e, ndx] at h; cases h)]
          exact h
        have sub2 : Sub Gl H2 := subL.trans subH
        have gx : Gl x = none := sub_none subL nx
        have args : ROs Z.D Gl H2 ws vs [] := ROs.mono (Sub.refl _) _ _ _ (fun _ z => nomatch z) (lendA_ok s1 r1 e2)
        have hx : H2 x = some (.ins (Z.CA c) dx []) := upd_same
        have st0 : Step Gl H1 [] Gl H2 [x] := ⟨Sub.refl _, fun a o h _ => subH a o h, fun _ _ _ _ _ h => h, fun a h => .inr (by rw [List.mem_singleton.mp h]; exact nx)⟩
        refine ⟨by rw [List.length_cons, ← r1.len]; exact hl, .obj c [] [] :: ws, Gl, [x], sub2, ⟨.ref x, vs, [x], [], rfl, rfl, ⟨x, dx, [], [], rfl, rfl, rfl, hx, rfl, rfl⟩, args⟩, by simp, fun a h => by rw [List.mem_singleton.mp h]; exact gx, ?_⟩
        cases e3 : g (.obj c [] [] :: ws) with
        | bad => simp only [e3] at q
        | ex c' ws' =>
          simp only [e3] at q
          intro G' H' O' sub _ _ _ st
          obtain ⟨G2, s2, st2, _, _⟩ := unlentO s1 sub (st0.trans st)
          exact q G2 H' Os1 s2 (t1.ofP (σ := σ) (st2.less fun _ z => nomatch z))
        | ok w ws' =>
          simp only [e3] at q
          have hw : w = .non ∧ ∃ w0 r, ws' = w0 :: r := by
            cases w <;> first
              | exact q.elim
              | (cases ws' with
                 | nil => exact q.elim
                 | cons w0 r => exact ⟨rfl, w0, r, rfl⟩)
          obtain ⟨rfl, w0, r, rfl⟩ := hw
          dsimp only at q
          by_cases hf : thk w0 = true
          · rw [if_pos hf] at q
            intro v G' H' O' Ow sub ro rv nd gn st
            obtain ⟨y, us, O1, O2, ey, rfl, ro1, _⟩ := ro
            cases ey
            obtain ⟨rfl, hv⟩ := rv
            rw [List.append_nil] at nd gn st
            refine ⟨hv, ?_⟩
            obtain ⟨G2, s2, st2, none2, th⟩ := unlentO s1 sub ((st0.trans st).less (O2 := O1) fun a h => List.mem_append_left _ h)
            have nd1 : O1.Nodup := (List.nodup_append.mp nd).1
            exact q (.ref x) G2 H' Os1 O1 s2 (RO.thk th w0 _ O1 hf ro1) ⟨s1.apart st2 nd1, fun a h => none2 a (gn a (List.mem_append_left _ h))⟩ (t1.ofP (σ := σ) st2)
          · rw [if_neg hf] at q; exact q.elim
    · simp only [if_neg hl] at q
theorem r_makeL {env : List W} (c : Nat) (g : Fn) (n : Nat) (m : Sm (List AV)) : mMakeL c g n m env = match m env with
  | .ok as env1 => if as.length + 1 = n then (match lendA env1 as with
    | none => .bad
    | some ws => (match g (.obj c [] [] :: ws) with
      | .ok .non (w :: _) => if thk w = true then .ok w env1 else .bad
      | .ex c' _ => .ex c' env1
      | _ => .bad)) else .bad
  | .ex c' e' => .ex c' e'
  | .bad => .bad := by
  unfold mMakeL
  rw [r_bind]
  cases m env <;> rfl
/-! ### what stands in a list at a place is frozen -/
def gFzK (i : Nat) (p : List Nat) : Sm Unit := fun env => match nodeAt i p env with
  | some (.nst ws) => if fzOks ws = true then .ok () (putAt i p (.lst true (fzDs ws)) env) else .bad
  | _ => .bad
theorem r_gfzK {env : List W} (i : Nat) (p : List Nat) : gFzK i p env = match nodeAt i p env with
  | some (.nst ws) => if fzOks ws = true then .ok () (putAt i p (.lst true (fzDs ws)) env) else .bad
  | _ => .bad := rfl
theorem mss_fzK {Z : Zt} {st : List Stmt} {m : Sm Fl} (i : Nat) (p : List Nat) (h : MSs Z st m) : MSs Z st (sGo (gFzK i p) m) := pss_imp h fun E σ H q => by
  obtain ⟨env, G, Os, s, q⟩ := q
  unfold sGo gFzK Sm.bind at q
  cases e : nodeAt i p env with
  | none => simp only [e] at q; exact q.elim
  | some w1 =>
    have hw : ∃ ws, w1 = .nst ws := by
      simp only [e] at q
      cases w1 <;> first
        | exact q.elim
        | exact ⟨_, rfl⟩
    obtain ⟨ws, rfl⟩ := hw
    simp only [e] at q
    by_cases hf : fzOks ws = true
    · simp only [if_pos hf] at q
      obtain ⟨w', b1, b2, b3⟩ := nodeAt_some e
      obtain ⟨v, u, O1, R, fo⟩ := s.focus b1 b2 b3
      obtain ⟨a, vs, O', rfl, rfl, ha, hr⟩ := id fo.ro
      have ndp : (R ++ a :: O').Nodup := fo.pm.nodup_iff.mpr s.nd
      have nd1 : (a :: O').Nodup := (List.nodup_append.mp ndp).2.1
      obtain ⟨na, nd'⟩ := List.nodup_cons.mp nd1
      have gO : ∀ b ∈ O', G b = none := fun b hb => s.gn b (fo.in1 b (List.mem_cons_of_mem _ hb))
      have rf : RFs Z.D (lentH G H O') (fzDs ws) vs := ROs.deep (S := O') ws vs O' hf hr fun b hb => ⟨hb, gO b hb⟩
      have notO : ∀ b ∈ R, b ∉ O' := fun b hb z => (List.nodup_append.mp ndp).2.2 b hb b (List.mem_cons_of_mem _ z) rfl
      have ga : G a = none := s.gn a (fo.in1 a List.mem_cons_self)
      obtain ⟨Os', k1, k2⟩ := fo.back (lentH G H O') H (.lst true (fzDs ws)) [a] lent_mono (sub_lentS s.sub) (fun _ _ _ h => h) (fun b hb => lent_none (notO b hb) (s.gn b (fo.inR b hb))) ⟨a, vs, rfl, rfl, ha, rf⟩
        (ndp.sublist (List.Sublist.append (List.Sublist.refl _) (by simp))) (fun b hb => by rw [List.mem_singleton.mp hb]; exact lent_none na ga)
      rw [putAt_of b1] at q
      refine TSx.on k1 ⟨lent_mono, fun _ _ h _ => h, fun b x hb hn _ g => ?_, fun b hb => .inl ?_⟩ (IoS.refl _) q
      · refine lent_none (fun z => hn ?_) g
        exact fo.in1 b (List.mem_cons_of_mem _ z)
      · rcases List.mem_append.mp (k2.mem_iff.mp hb) with z | z
        · exact fo.inR b z
        · rw [List.mem_singleton.mp z]; exact fo.in1 a List.mem_cons_self
    · simp only [if_neg hf] at q; exact q.elim
end Ev

namespace Ev
open PySem PySem.Spec L2

/-! ### frozen things stay where lists and tuples stay -/
mutual
theorem RF.off {D : Dn} {G G' : Hp} (t1 : ∀ a vs, G a = some (.lst vs) → G' a = some (.lst vs)) (t2 : ∀ a vs, SqL D.K G a vs → SqL D.K G' a vs) (t3 : ∀ a vs, SqT D.K G a vs → SqT D.K G' a vs) : ∀ (w : W) (v : V), RF D G w v → RF D G' w v
  | .non, _, r => r
  | .bl _, _, r => r
  | .int _, _, r => r
  | .str _, _, r => r
  | .tup ws, _, r => by
    obtain ⟨a, vs, rfl, r1, r2⟩ := r
    exact ⟨a, vs, rfl, t3 a vs r1, RFs.off t1 t2 t3 ws vs r2⟩
  | .lst false ws, _, r => by
    obtain ⟨a, vs, rfl, r1, r2⟩ := r
    exact ⟨a, vs, rfl, t1 a vs r1, RFs.off t1 t2 t3 ws vs r2⟩
  | .scr ws, _, r => by
    obtain ⟨a, vs, rfl, r1, r2⟩ := r
    exact ⟨a, vs, rfl, t2 a vs r1, RFs.off t1 t2 t3 ws vs r2⟩
  | .lst true _, _, r => r
  | .nst _, _, r => r
  | .ntp _, _, r => r
  | .dct _ _ _, _, r => r
  | .ndc _ _, _, r => r
  | .obj _ _ _, _, r => r
  | .exc _, _, r => r
  | .dead, _, r => r
theorem RFs.off {D : Dn} {G G' : Hp} (t1 : ∀ a vs, G a = some (.lst vs) → G' a = some (.lst vs)) (t2 : ∀ a vs, SqL D.K G a vs → SqL D.K G' a vs) (t3 : ∀ a vs, SqT D.K G a vs → SqT D.K G' a vs) : ∀ (ws : List W) (vs : List V), RFs D G ws vs → RFs D G' ws vs
  | [], _, r => r
  | w :: ws, _, r => by
    obtain ⟨v, us, rfl, r1, r2⟩ := r
    exact ⟨v, us, rfl, RF.off t1 t2 t3 w v r1, RFs.off t1 t2 t3 ws us r2⟩
end
def lok : W → Bool
  | .lst true _ => true
  | w => w.frz || thk w
theorem lok_lst (ws : List W) : lok (.lst true ws) = true := rfl
theorem RO.off {D : Dn} {G G' H : Hp} (t1 : ∀ a vs, G a = some (.lst vs) → G' a = some (.lst vs)) (t2 : ∀ a vs, SqL D.K G a vs → SqL D.K G' a vs) (t3 : ∀ a vs, SqT D.K G a vs → SqT D.K G' a vs) {w : W} {v : V} {O : List Addr} (h : lok w = true) (r : RO D G H w v O) : RO D G' H w v O := by
  unfold lok at h
  split at h
  · obtain ⟨a, us, rfl, rfl, k1, k2⟩ := r
    exact ⟨a, us, rfl, rfl, k1, RFs.off t1 t2 t3 _ _ k2⟩
  · rcases Bool.or_eq_true_iff.mp h with f | f
    · obtain ⟨rfl, rf⟩ := r.toF f
      exact RO.ofF (RF.off t1 t2 t3 _ _ rf)
    · exact RO.thk t3 _ v O f r
/-! ### a dict at a place is locked while it is walked -/
def mLockP (i : Nat) (mp : Sm (List Nat)) (m : Sm W) : Sm W := fun env => match mp env with
  | .ok p _ => (match nodeAt i p env with
    | some (.dct true ks ws) => (match m (putAt i p (.dct false ks ws) env) with
      | .ok w _ => if lok w = true then .ok w env else .bad
      | _ => .bad)
    | _ => .bad)
  | _ => .bad
theorem r_lockP {env : List W} (i : Nat) (mp : Sm (List Nat)) (m : Sm W) : mLockP i mp m env = match mp env with
  | .ok p _ => (match nodeAt i p env with
    | some (.dct true ks ws) => (match m (putAt i p (.dct false ks ws) env) with
      | .ok w _ => if lok w = true then .ok w env else .bad
      | _ => .bad)
    | _ => .bad)
  | _ => .bad := rfl
theorem me_lockP {Z : Zt} {e : Expr} {i : Nat} (mp : Sm (List Nat)) {m : Sm W} (h : ME Z e m true true) : ME Z e (mLockP i mp m) true true := pe_imp (pe_lock h) fun σ H Q q => by
  obtain ⟨env, G, Os, s, q⟩ := q
  unfold mLockP at q
  cases ep : mp env with
  | bad => simp only [ep] at q
  | ex c e' => simp only [ep] at q
  | ok p e' =>
    simp only [ep] at q
    cases e0 : nodeAt i p env with
    | none => simp only [e0] at q
    | some w1 =>
      have hw : ∃ ks ws, w1 = .dct true ks ws := by
        cases w1 <;> first
          | (simp only [e0] at q; done)
          | (rename_i b _ _; cases b <;> first | (simp only [e0] at q; done) | exact ⟨_, _, rfl⟩)
      obtain ⟨ks, ws, rfl⟩ := hw
      simp only [e0] at q
      obtain ⟨w', b1, b2, b3⟩ := nodeAt_some e0
      obtain ⟨v0, u0, O1, R, fo⟩ := s.focus b1 b2 b3
      obtain ⟨d, vs, rfl, rfl, h3, h4⟩ := id fo.ro
      obtain ⟨u, hu, mu⟩ : ∃ u, H d = some u ∧ Mut (some u) ∧ ∀ od, LkR (upd G d (.frz od u)) d ks vs := by
        cases ks with
        | k l => exact ⟨_, h3.2, trivial, fun od => ⟨h3.1, od, upd_same⟩⟩
        | t l => exact ⟨_, h3.2, trivial, fun od => ⟨h3.1, od, upd_same⟩⟩
      refine ⟨d, u, hu, mu.1, fun od => ?_⟩
      have inO : d ∈ Os.flatten := fo.in1 d List.mem_cons_self
      have gd : G d = none := s.gn d inO
      have mono : Sub G (upd G d (.frz od u)) := sub_new gd
      have ndp : (R ++ [d]).Nodup := fo.pm.nodup_iff.mpr s.nd
      have nR : ∀ a ∈ R, a ≠ d := fun a ha e => (List.nodup_append.mp ndp).2.2 a ha d List.mem_cons_self e
      obtain ⟨Os1, s1, _⟩ := fo.back (upd G d (.frz od u)) (upd H d (.frz od u)) (.dct false ks ws) [] mono (sub_upd2 s.sub) (fun a ha x hx => by rw [upd_ne (nR a ha)]; exact hx) (fun a ha => by rw [upd_ne (nR a ha)]; exact s.gn a (fo.inR a ha))
        ⟨rfl, d, vs, rfl, mu.2 od, RFs.mono mono _ _ h4⟩ (by rw [List.append_nil]; exact (List.nodup_append.mp ndp).1) (fun _ z => nomatch z)
      rw [putAt_of b1] at q
      refine ⟨_, _, _, s1, ?_⟩
      cases e1 : m (env.set i (setP w' p (.dct false ks ws))) with
      | bad => simp only [e1] at q
      | ex c env1 => simp only [e1] at q
      | ok w env1 =>
        simp only [e1] at q
        intro v G' H' Os' Ow s' r o t
        obtain ⟨rfl, rfl, t⟩ := t
        have hd' : H' d = some (.frz od u) := t.keep d _ upd_same (fun z => nomatch z)
        refine ⟨hd', ?_⟩
        by_cases hf : lok w = true
        · simp only [if_pos hf] at q
          let G2 : Hp := fun a => if a = d then none else G' a
          have g2 : ∀ a, a ≠ d → G2 a = G' a := fun a h => if_neg h
          have g0 : G2 d = none := if_pos rfl
          have sub2 : Sub G2 (upd H' d u) := fun a x hx => by
            by_cases e : a = d
            · rw [e, g0] at hx; cases hx
            · rw [g2 a e] at hx; rw [upd_ne e]; exact s'.sub a x hx
          have nw : ∀ a ∈ Ow, H a = none ∧ a ≠ d := fun a ha => by
            rcases t.new a ha with z | z
            · cases z
            · by_cases e : a = d
              · rw [e, upd_same] at z; cases z
              · rw [upd_ne e] at z; exact ⟨z, e⟩
          have st : Step G H [] G2 (upd H' d u) Ow := by
            refine ⟨fun a x hx => ?_, fun a x hx _ => ?_, fun a x hx hn nt hg => ?_, fun a ha => .inr (nw a ha).1⟩
            · have e : a ≠ d := fun e => by rw [e, gd] at hx; cases hx
              rw [g2 a e]; exact t.mono a x (mono a x hx)
            · by_cases e : a = d
              · rw [e, upd_same]; rw [e, hu] at hx; exact hx
              · rw [upd_ne e]; exact t.keep a x (by rw [upd_ne e]; exact hx) (fun z => nomatch z)
            · by_cases e : a = d
              · rw [e]; exact g0
              · rw [g2 a e]; exact t.gnew a x (by rw [upd_ne e]; exact hx) (fun z => nomatch z) nt (by rw [upd_ne e]; exact hg)
          have s2 : StOk Z.D G2 (upd H' d u) env σ Os := s.step (st.less (O2 := []) fun _ z => nomatch z) sub2
          have gd' : G' d = some (.frz od u) := t.mono d _ upd_same
          have thin : ∀ a xs, SqT Z.D.K G' a xs → SqT Z.D.K G2 a xs := fun a xs h => by
            rcases h with (h | ⟨o', h⟩) | h
            · refine .inl (.inl ?_)
              have e : a ≠ d := fun e => by
                rw [e, gd'] at h
                cases h
              rw [g2 a e]; exact h
            · refine .inl (.inr ⟨o', ?_⟩)
              have e : a ≠ d := fun e => by
                rw [e, gd'] at h
                cases h
                exact mu.1
              rw [g2 a e]; exact h
            · exact .inr h
          have isd : IsDct u := by
            obtain ⟨o', e1, e2⟩ := h3.is
            rw [hu] at e1
            cases e1
            exact e2
          have thl : ∀ a xs, G' a = some (.lst xs) → G2 a = some (.lst xs) := fun a xs h => by
            have e : a ≠ d := fun e => by
              rw [e, gd'] at h
              cases h
            rw [g2 a e]; exact h
          have thq : ∀ a xs, SqL Z.D.K G' a xs → SqL Z.D.K G2 a xs := fun a xs h => by
            rcases h with (h | ⟨o', h⟩) | h
            · exact .inl (.inl (thl a xs h))
            · refine .inl (.inr ⟨o', ?_⟩)
              have e : a ≠ d := fun e => by
                rw [e, gd'] at h
                cases h
                cases isd
              rw [g2 a e]; exact h
            · exact .inr h
          have r2 : RO Z.D G2 (upd H' d u) w v Ow := RO.off thl thq thin hf (RO.mono (Sub.refl _) w v Ow (fun a ha x hx => by rw [upd_ne (nw a ha).2]; exact hx) r)
          refine q v G2 (upd H' d u) Os Ow s2 r2 ⟨s.apart st (List.nodup_append.mp o.1).2.1, fun a ha => ?_⟩ ⟨rfl, rfl, st⟩
          rw [g2 a (nw a ha).2]; exact o.2 a ha
        · simp only [if_neg hf] at q
/-! ### place[key] = e: e frozen, the place a dict -/
def sDPutP (i : Nat) (mp : Sm (List Nat)) (mk : Sm KK) (me : Sm W) : Sm Fl := Sm.bind me fun w env => if w.frz = true then (Sm.bind mp fun p env1 => match nodeAt i p env1 with
  | some (.dct true ks ws) => (match mk env1 with
    | .ok kk _ => if ws.length < sizeLine then (match dStore ks ws kk w with
      | some st => .ok .nx (putAt i p (.dct true st.1 st.2) env1)
      | none => .bad) else .bad
    | _ => .bad)
  | _ => .bad) env else .bad
theorem ms_dputP {Z : Zt} {n i : Nat} {o ix e : Expr} {me : Sm W} {mp : Sm (List Nat)} {mk : Sm KK} {p1 k1 : Bool} {pos pos2 : Pos} (hr : Room n Z.X.A) (he : ME Z e me p1 k1) (ho : MP Z o i mp) (hk : MK Z ix mk true)
    (hs : swapsWith e (some (.Subscript o ix pos2)) pos.line Z.X.env = pure false := by rfl) : MS Z (.Assign [.Subscript o ix pos2] e pos) (sDPutP i mp mk me) := ps_imp (ps_dput (by have := hr.un; omega) ho hk he hs) fun E σ H q => by
  obtain ⟨env, G, Os, s, q⟩ := q
  refine ⟨env, G, Os, s, ?_⟩
  unfold sDPutP Sm.bind at q
  cases e1 : me env with
  | bad => rw [e1] at q; exact q
  | ex c env1 =>
    rw [e1] at q
    exact fun G' H' Os' s' t => q σ G' H' Os' s' t.st (IoS.refl _)
  | ok w env1 =>
    rw [e1] at q
    intro v G1 H1 Os1 Ow s1 r1 o1 t1
    by_cases hf : w.frz = true
    · simp only [if_pos hf] at q
      obtain ⟨rfl, rf⟩ := r1.toF hf
      refine ⟨env1, G1, Os1, s1, ?_⟩
      cases e0 : mp env1 with
      | bad => simp only [e0] at q; exact q.elim
      | ex c env2 =>
        simp only [e0] at q
        exact fun G' H' Os' s' t' => q σ G' H' Os' s' (t1.st.trans t'.st) (IoS.refl _)
      | ok p env2 =>
        simp only [e0] at q
        cases e2 : nodeAt i p env2 with
        | none => rw [e2] at q; exact q.elim
        | some w1 =>
          have hw : ∃ ks ws, w1 = .dct true ks ws := by
            rw [e2] at q
            cases w1 <;> first
              | exact q.elim
              | (rename_i b _ _; cases b <;> first | exact q.elim | exact ⟨_, _, rfl⟩)
          obtain ⟨ks, ws, rfl⟩ := hw
          rw [e2] at q
          obtain ⟨w', b1, b2, b3⟩ := nodeAt_some e2
          refine ⟨w', _, b1, b2, b3, fun v' u G2 H2 Os2 s2 t2 hv nv => ?_⟩
          obtain ⟨rfl, rfl, t2'⟩ := id t2
          obtain ⟨v0, u0, O1, R, fo⟩ := s2.focus b1 b2 b3
          have ev : v0 = v' := by have := fo.sv; rw [hv] at this; cases this; rfl
          subst ev
          have eu := fo.same s2 hv nv
          subst eu
          refine ⟨env2, G2, Os2, s2, ?_⟩
          cases e3 : mk env2 with
          | bad => simp only [e3] at q; exact q.elim
          | ex c env3 => simp only [e3] at q; exact q.elim
          | ok kk env3 =>
            simp only [e3] at q
            intro y G3 H3 Os3 s3 hy t3
            obtain ⟨rfl, rfl, t3'⟩ := id t3
            by_cases hl : ws.length < sizeLine
            · rw [if_pos hl] at q
              cases e4 : dStore ks ws kk w with
              | none => rw [e4] at q; exact q.elim
              | some st =>
                rw [e4] at q
                dsimp only at q
                obtain ⟨O1', R', f2⟩ := fo.on b1 b2 b3 s3 t3'
                obtain ⟨a, vs, rfl, rfl, h3', rs3⟩ := id f2.ro
                have rf3 : RF Z.D G3 w v := RF.mono (t2.gen.mono.trans t3.gen.mono) _ _ rf
                rw [putAt_of b1] at q
                have done : ∀ (ho : HO) (us : List V), DR (upd H3 a ho) a st.1 us → RFs Z.D G3 st.2 us → E.nx σ (upd H3 a ho) := fun ho us dd rr => by
                  obtain ⟨Os4, s4, t4⟩ := f2.upd s3 (Ow := []) (y := .dct true st.1 st.2) (O1' := [a]) (o := ho) List.mem_cons_self ⟨a, us, rfl, rfl, dd, rr⟩ (by simp) (fun b hb => .inl hb) (by rw [List.append_nil]; exact s3.nd) (fun _ z => nomatch z)
                  rw [List.append_nil] at t4
                  exact q σ G3 (upd H3 a ho) Os4 s4 (((t1.st.trans t2.st).trans t3.st).trans t4) (IoS.refl _)
                cases ks with
                | k l =>
                  cases kk with
                  | inr _ => cases e4
                  | inl k =>
                    cases e4
                    subst hy
                    obtain ⟨us, e4, e5, e6⟩ := dPut_ok (k := k) rs3 rf3 h3'.1
                    refine ⟨a, _, rfl, .inl ⟨_, k, h3'.2, rfl, ?_, rfl⟩, ?_⟩
                    · rw [List.length_zip, ← h3'.1, Nat.min_self, h3'.1, ← rs3.len]; exact hl
                    · rw [e4]
                      exact done _ us ⟨e5, upd_same⟩ e6
                | t l =>
                  cases kk with
                  | inl _ => cases e4
                  | inr k =>
                    cases e4
                    obtain ⟨c, rfl, hc⟩ := hy
                    obtain ⟨us, e4, e5, e6⟩ := dPut_ok (k := k) rs3 rf3 h3'.1
                    refine ⟨a, _, rfl, .inr ⟨_, k, c, h3'.2, rfl, s3.sub _ _ hc, ?_, rfl⟩, ?_⟩
                    · rw [List.length_zip, ← h3'.1, Nat.min_self, h3'.1, ← rs3.len]; exact hl
                    · rw [e4]
                      exact done _ us ⟨e5, upd_same⟩ e6
            · rw [if_neg hl] at q; exact q.elim
    · simp only [if_neg hf] at q; exact q.elim
theorem r_dputP {env : List W} (i : Nat) (mp : Sm (List Nat)) (mk : Sm KK) (me : Sm W) : sDPutP i mp mk me env = match me env with
  | .ok w env0 => if w.frz = true then (match mp env0 with
    | .ok p env1 => (match nodeAt i p env1 with
      | some (.dct true ks ws) => (match mk env1 with
        | .ok kk _ => if ws.length < sizeLine then (match dStore ks ws kk w with
          | some st => .ok .nx (putAt i p (.dct true st.1 st.2) env1)
          | none => .bad) else .bad
        | _ => .bad)
      | _ => .bad)
    | .ex c e' => .ex c e'
    | .bad => .bad) else .bad
  | .ex c e' => .ex c e'
  | .bad => .bad := by
  unfold sDPutP
  rw [r_bind]
  cases me env with
  | ok w env0 =>
    dsimp only
    split
    · rw [r_bind]
      cases mp env0 <;> rfl
    · rfl
  | _ => rfl
/-! ### place[ix] = e, the place a list of things -/
def sStoN (i : Nat) (k : Bool) (mp : Sm (List Nat)) (mi me : Sm W) : Sm Fl := Sm.bind me fun w env => if (k || w.frz) = true then (Sm.bind mp fun p env1 => match nodeAt i p env1 with
  | some (.nst xs) => (match mi env1 with
    | .ok (.int n) _ => (match ixN xs.length n with
      | some j => .ok .nx (putAt i p (.nst (xs.set j w)) env1)
      | none => .bad)
    | _ => .bad)
  | _ => .bad) env else .bad
theorem ms_stoN {Z : Zt} {o ix e : Expr} {i : Nat} {mp : Sm (List Nat)} {mi me : Sm W} {p2 k k1 : Bool} {pos spos : Pos} (he : ME Z e me p2 k) (ho : MP Z o i mp) (hi : ME Z ix mi true k1)
    (ha : ∀ v, assign (.Subscript o ix spos) Z.X.env v = (do
      let w0 ← holding [v] (eval o Z.X.env)
      let j0 ← holding [v, w0] (eval ix Z.X.env)
      standAt spos
      holding [v, w0, j0] (setItem w0 j0 v)
      release [v, w0, j0] []) := by intro _; rfl)
    (hs : swapsWithSole [.Subscript o ix spos] e pos.line Z.X.env = pure false := by rfl) (hw : swappedStores [.Subscript o ix spos] e Z.X.env = pure none := by rfl)
    (h1 : (assignEach [.Subscript o ix spos] Z.X.env).map (·.2) = [assign (.Subscript o ix spos) Z.X.env] := by rfl) : MS Z (.Assign [.Subscript o ix spos] e pos) (sStoN i k mp mi me) :=
  ps_imp (ps_asg he (pg_sub ho hi set_list ha) hs hw h1) fun E σ H q => by
    obtain ⟨env, G, Os, s, q⟩ := q
    refine ⟨env, G, Os, s, ?_⟩
    unfold sStoN Sm.bind at q
    cases e : me env with
    | bad => rw [e] at q; exact q
    | ex c env1 =>
      rw [e] at q
      exact fun G' H' Os' s' t => q σ G' H' Os' s' t.st (IoS.refl _)
    | ok w env1 =>
      rw [e] at q
      intro v G1 H1 Os1 Ow s1 r o t
      by_cases hf : (k || w.frz) = true
      · simp only [if_pos hf] at q
        have o1 := frz_own s1 r o hf
        have t0 : Step G H Os.flatten G1 H1 (Os1.flatten ++ Ow) := t.gen.less fun a ha => (List.mem_append.mp ha).elim (List.mem_append_left _) fun z => List.mem_append_right _ (kO_of r hf a z)
        refine ⟨env1, G1, Os1, s1, ?_⟩
        cases e0 : mp env1 with
        | bad => simp only [e0] at q; exact q.elim
        | ex c env2 =>
          simp only [e0] at q
          exact fun G' H' Os' s' t' => q σ G' H' Os' s' ((t0.less fun a ha => List.mem_append_left _ ha).trans t'.st) (IoS.refl _)
        | ok p env2 =>
          simp only [e0] at q
          cases e2 : nodeAt i p env2 with
          | none => rw [e2] at q; exact q.elim
          | some w1 =>
            have hw : ∃ xs, w1 = .nst xs := by
              rw [e2] at q
              cases w1 <;> first
                | exact q.elim
                | exact ⟨_, rfl⟩
            obtain ⟨xs, rfl⟩ := hw
            rw [e2] at q
            obtain ⟨w', b1, b2, b3⟩ := nodeAt_some e2
            refine ⟨w', _, b1, b2, b3, fun v' u G2 H2 Os2 s2 t2 hv nv => ?_⟩
            obtain ⟨rfl, rfl, t2'⟩ := id t2
            obtain ⟨v0, u0, O1, R, fo⟩ := s2.focus b1 b2 b3
            have ev : v0 = v' := by have := fo.sv; rw [hv] at this; cases this; rfl
            subst ev
            have eu := fo.same s2 hv nv
            subst eu
            refine ⟨env2, G2, Os2, s2, ?_⟩
            cases e3 : mi env2 with
            | bad => simp only [e3] at q; exact q.elim
            | ex c env3 => simp only [e3] at q; exact q.elim
            | ok j env3 =>
              cases j with
              | int n =>
                simp only [e3] at q
                intro jv G3 H3 Os3 Oj s3 rj oj t3
                obtain ⟨rfl, rfl, t3'⟩ := id t3
                obtain ⟨_, rfl⟩ := rj
                cases e4 : ixN xs.length n with
                | none => rw [e4] at q; exact q.elim
                | some j =>
                  rw [e4] at q
                  dsimp only at q
                  obtain ⟨O1', R', f2⟩ := fo.on b1 b2 b3 s3 t3'
                  obtain ⟨a, vs, O', rfl, rfl, ha2, hr⟩ := id f2.ro
                  have t23 := t2'.trans t3'
                  have r3 : RO Z.D G3 H3 w v Ow := RO.mono t23.mono w v Ow (fun b hb x hx => t23.keep b x hx (fun z => nomatch z)) r
                  have gn3 : ∀ b ∈ Ow, G3 b = none := fun b hb => by
                    obtain ⟨x, hx, nt⟩ := RO.thn w v Ow r b hb
                    exact t23.gnew b x hx (fun z => nomatch z) nt (o1.2 b hb)
                  have nd1 : (a :: O').Nodup := (List.nodup_append.mp (f2.pm.nodup_iff.mpr s3.nd)).2.1
                  obtain ⟨na, nd'⟩ := List.nodup_cons.mp nd1
                  have dis : ∀ b ∈ Ow, b ∉ Os3.flatten := fun b hb z => (List.nodup_append.mp o1.1).2.2 b z b hb rfl
                  have aOw : a ∉ Ow := fun z => dis a z (f2.in1 a List.mem_cons_self)
                  have hj := ixN_lt e4
                  obtain ⟨R2, O2, O'', k1, k2, k3⟩ := ROs.setV (RO.mono (Sub.refl _) w v Ow (fun b hb x hx => by rw [upd_ne (fun e => aOw (by rw [← e]; exact hb))]; exact hx) r3)
                    (ROs.mono (Sub.refl _) _ _ _ (fun b hb x hx => (by rw [upd_ne (fun e => na (by rw [← e]; exact hb))]; exact hx : (upd H3 a (.lst (vs.set j v))) b = some x)) hr) hj
                  have sb : ∀ b ∈ O'', b ∈ O' ∨ b ∈ Ow := fun b hb => by
                    rcases List.mem_append.mp (k3.mem_iff.mp hb) with z | z
                    · exact .inl (k1.mem_iff.mp (List.mem_append_left _ z))
                    · exact .inr z
                  have nd3 : O''.Nodup := by
                    refine k3.nodup_iff.mpr (List.nodup_append.mpr ⟨(List.nodup_append.mp (k1.nodup_iff.mpr nd')).1, (List.nodup_append.mp o1.1).2.1, fun x hx y hy e => ?_⟩)
                    subst e
                    exact dis x hy (f2.in1 x (List.mem_cons_of_mem _ (k1.mem_iff.mp (List.mem_append_left _ hx))))
                  have naO : a ∉ O'' := fun z => (sb a z).elim na aOw
                  obtain ⟨Os4, s4, t4⟩ := f2.upd s3 (Ow := Ow) (y := .nst (xs.set j w)) (O1' := a :: O'') (o := .lst (vs.set j v)) List.mem_cons_self ⟨a, _, O'', rfl, rfl, upd_same, k2⟩ (List.nodup_cons.mpr ⟨naO, nd3⟩) (fun b hb => by
                    rcases List.mem_cons.mp hb with rfl | z
                    · exact .inl List.mem_cons_self
                    · exact (sb b z).imp (List.mem_cons_of_mem _) id) o1.1 gn3
                  rw [putAt_of b1] at q
                  have u2 : Step G1 H1 (Os3.flatten ++ Ow) G3 H3 (Os3.flatten ++ Ow) := by
                    have z := t23.pure0 (O := Os3.flatten ++ Ow)
                    exact z.less fun x hx => List.mem_append_left _ hx
                  exact ⟨a, vs, n, j, rfl, rfl, ha2, by rw [← hr.len']; exact e4, q σ G3 _ Os4 s4 ((t0.trans u2).trans t4) (IoS.refl _)⟩
              | _ => simp only [e3] at q; exact q.elim
      · simp only [if_neg hf] at q
        exact q.elim
theorem r_stoN {env : List W} (i : Nat) (k : Bool) (mp : Sm (List Nat)) (mi me : Sm W) : sStoN i k mp mi me env = match me env with
  | .ok w env0 => if (k || w.frz) = true then (match mp env0 with
    | .ok p env1 => (match nodeAt i p env1 with
      | some (.nst xs) => (match mi env1 with
        | .ok (.int n) _ => (match ixN xs.length n with
          | some j => .ok .nx (putAt i p (.nst (xs.set j w)) env1)
          | none => .bad)
        | _ => .bad)
      | _ => .bad)
    | .ex c e' => .ex c e'
    | .bad => .bad) else .bad
  | .ex c e' => .ex c e'
  | .bad => .bad := by
  unfold sStoN
  rw [r_bind]
  cases me env with
  | ok w env0 =>
    dsimp only
    split
    · rw [r_bind]
      cases mp env0 <;> rfl
    · rfl
  | _ => rfl
/-! ### len of a dict -/
def lenDW : W → Option W
  | .dct _ _ ws => some (.int ws.length)
  | _ => none
end Ev

namespace Ev
open PySem PySem.Spec L2 PyProof.Rows

/-! ### len of a dict that is not locked -/
def lenKW : W → Option W
  | .dct true (.k _) ws => some (.int ws.length)
  | _ => none
theorem me_lenD {Z : Zt} {e : Expr} {m : Sm W} {p k1 : Bool} {p1 p2 : Pos} (hm : Z.X.mg "len" = none) (ha : ME Z e m p k1) (hg : Gl Z.X "len" := by rfl) (hs : starEach [e] Z.X.env = (false, eval e Z.X.env) :: starEach [] Z.X.env := by rfl) : ME Z (.Call (.Name "len" p1) [e] [] p2) (mUn lenKW m) p true :=
  me_b1 (fun G H w1 v1 O1 w Q s r e q => by
    unfold lenKW at e
    split at e
    · cases e
      obtain ⟨a, vs, rfl, rfl, h1, h2⟩ := r
      refine ⟨_, call_lenD, a, _, rfl, h1.2, ?_⟩
      rw [List.length_zip, h1.1, Nat.min_self, ← h2.len]
      exact q.int s
    · cases e) hg hm PySem.boot_len ha (by decide) (by decide) hs

/-! ### d.pop(key): the key stands -/
theorem pop_there {prog : Program} {w : World} {K : Type} [DecidableEq K] {knd : HeapKind prog w K} {d b : Addr} {k : K} (lo : (d == sysModules) = false) :
    MeetsIn prog w (Builtin.«dict.pop» ⟨[.ref d, .ref b], []⟩) (fun A R s => ∃ tab pr, knd.room A.in1 ∧ knd.is s.heap k b ∧ s.heap.DictOfH knd d tab ∧ tab.length ≤ sizeLine ∧ atKey tab k = some pr ∧
      ∀ h' tk, h'.DictOfH knd d (DT.dropH tab k) → Heap.SameBut d s.heap h' → R (.ok (.ret pr.2)) { s with heap := h', toks := tk }) :=
  .of_wp fun A R s ⟨tab, pr, hu, hkey, hm, hsz, ht, fin⟩ => by
    obtain ⟨ob, rs, n0, g1, g2, g3, g4, g5, g6⟩ := id hm
    have hne : rs.isEmpty = false := by
      have hl := PySem.size_of_entries g4
      cases tab with
      | nil => cases ht
      | cons t ts =>
        rw [Array.isEmpty_eq_false_iff]
        intro z
        rw [z] at hl
        simp at hl
    have hpt : (keyPart (Value.ref b)).isSome = false := rfl
    unfold Builtin.«dict.pop»
    refine wpAny_bind ?_
    unfold Builtin.Dict.keyAndDefault
    refine wpAny_bind (wpAny_notOrdered_dict hm.typeIs ?_)
    show wpAny _ _ (pure (d, Value.ref b, none)) _ _ s
    refine wpAny_pure ?_
    simp only [hpt, Bool.false_eq_true, if_false]
    refine wpAny_bind (wpAny_dictEntries g1 g3 (wpAny_bind (wpAny_pure ?_)))
    simp only [hne, Bool.false_eq_true, if_false]
    refine wpAny_bind (DT.takeH hu hkey hm hsz (fun z => by rw [z] at ht; cases ht) fun q x hq hv h' hm' hs' => ?_)
    have eq : q = pr := Option.some.inj (hq.symm.trans ht)
    subst eq
    simp only [Option.isNone_some, Bool.false_eq_true, if_false]
    exact wpAny_bind (wpAny_letGo (wpAny_pure ⟨x.val, rfl, by rw [hv]; exact fin h' _ hm' hs'⟩))
section
variable {X : Cx}
def rPop1 : V → List V → Hp → VK → Prop := fun x xs H Q => ∃ (a : Addr) (tab : List (List L2.Key × V)) (k : List L2.Key) (b : Addr) (v : V), x = .ref a ∧ xs = [.ref b] ∧ H a = some (.dT tab) ∧ H b = some (.tup (k.map kV)) ∧ valV tab k = some v ∧ Q v (upd H a (.dT (dropK tab k)))
theorem mt_pop1 (hu : X.A.units + 1 < cLine) : MtR X "dict.pop" rPop1 := by
  intro pins s σ H x xs v us Q I rx rxs h
  obtain ⟨a, tab, k, b, v1, rfl, rfl, ha, hb, hv, q⟩ := h
  cases rx
  obtain ⟨u, rfl, ru⟩ := vals1 rxs
  cases ru
  obtain ⟨z, lo, ys, rel, dd⟩ := dt_of I.hok ha
  have hz : ys.length ≤ sizeLine := by rw [← Paired.length rel]; exact z
  have r := rel.val k
  rw [hv] at r
  cases hk : atKey ys k with
  | none =>
    rw [hk] at r
    exact (show False from r).elim
  | some pr =>
    rw [hk] at r
    refine call_meetsIn PySem.F.slot_dict_pop dd.typeIs PySem.F.entry_dict_pop (PySem.F.args_dict_pop_2 _ _) (pop_there (knd := tupleKind (mixKind X.prog X.w)) (k := k) lo)
      ⟨ys, pr, tupleKind_room_in1 hu, key_of I.hok hb, dd, hz, hk, fun h' tk dd' hs => ?_⟩
    obtain ⟨o, es, ep, g1, g2, g3, g4, _, g5⟩ := dd'
    have I2 : Inv X pins σ (upd H a (.dT (dropK tab k))) { s with heap := h', toks := tk } :=
      d_write I (by rw [ha]; exact True.intro) hs ⟨o, g1⟩ ⟨Nat.le_trans (dropK_le tab k) z, lo, _, (DX.KT_drop k rel).keeps (fun c ys ec => by rw [upd_ne (ne_of ec ha (fun z => nomatch z))]; exact ec), o, es, ep, g1, g2, g3, g4, g5⟩
    exact ⟨v1, _, I2, r, q⟩
end
/-! a key out of a dict -/
section
variable {κ : Type} [DecidableEq κ]
def dCutW {α : Type} : List κ → List α → κ → List α
  | a :: l, w :: ws, k => if a = k then dCutW l ws k else w :: dCutW l ws k
  | _, _, _ => []
def dCutK (l : List κ) (k : κ) : List κ := l.filter fun a => decide (a ≠ k)
theorem dCut_zip : ∀ {l : List κ} {vs : List V} {k : κ}, l.length = vs.length → dropK (l.zip vs) k = (dCutK l k).zip (dCutW l vs k) ∧ (dCutK l k).length = (dCutW l vs k).length
  | [], [], _, _ => ⟨rfl, rfl⟩
  | [], _ :: _, _, h => nomatch h
  | _ :: _, [], _, h => nomatch h
  | a :: l, v :: vs, k, h => by
    obtain ⟨e1, e2⟩ := dCut_zip (l := l) (vs := vs) (k := k) (Nat.succ.inj h)
    unfold dropK dCutK at e1 ⊢
    unfold dCutK at e2
    rw [List.zip_cons_cons]
    by_cases c : a = k
    · rw [List.filter_cons_of_neg (by simp [c]), List.filter_cons_of_neg (by simp [c])]
      unfold dCutW
      rw [if_pos c]
      exact ⟨e1, e2⟩
    · rw [List.filter_cons_of_pos (by simp [c]), List.filter_cons_of_pos (by simp [c])]
      unfold dCutW
      rw [if_neg c, List.zip_cons_cons, List.length_cons, List.length_cons, e2]
      exact ⟨by rw [e1], rfl⟩
theorem dCut_rf {D : Dn} {G : Hp} {k : κ} : ∀ {l : List κ} {ws : List W} {vs : List V}, RFs D G ws vs → RFs D G (dCutW l ws k) (dCutW l vs k)
  | [], _, _, _ => by unfold dCutW; rfl
  | _ :: _, [], _, r => by rw [show _ = [] from r]; unfold dCutW; rfl
  | a :: l, w :: ws, _, r => by
    obtain ⟨v, us, rfl, r1, r2⟩ := r
    unfold dCutW
    by_cases c : a = k
    · rw [if_pos c, if_pos c]; exact dCut_rf r2
    · rw [if_neg c, if_neg c]; exact ⟨v, _, rfl, r1, dCut_rf r2⟩
end
def mDPopP (i : Nat) (mp : Sm (List Nat)) (mk : Sm KK) : Sm W := Sm.bind mp fun p env1 => match nodeAt i p env1 with
  | some (.dct true (.t l) ws) => (match mk env1 with
    | .ok (.inr k) _ => (match dAt l ws k with
      | some w => .ok w (putAt i p (.dct true (.t (dCutK l k)) (dCutW l ws k)) env1)
      | none => .bad)
    | _ => .bad)
  | _ => .bad
theorem r_dpopP {env : List W} (i : Nat) (mp : Sm (List Nat)) (mk : Sm KK) : mDPopP i mp mk env = match mp env with
  | .ok p env1 => (match nodeAt i p env1 with
    | some (.dct true (.t l) ws) => (match mk env1 with
      | .ok (.inr k) _ => (match dAt l ws k with
        | some w => .ok w (putAt i p (.dct true (.t (dCutK l k)) (dCutW l ws k)) env1)
        | none => .bad)
      | _ => .bad)
    | _ => .bad)
  | .ex c e' => .ex c e'
  | .bad => .bad := by
  unfold mDPopP
  rw [r_bind]
  cases mp env <;> rfl
theorem me_dpopP {Z : Zt} {n i : Nat} {o ix : Expr} {mp : Sm (List Nat)} {mk : Sm KK} {apos cpos : Pos} (hr : Room n Z.X.A) (ho : MP Z o i mp) (hk : MK Z ix mk true)
    (hbase : attributeBase o "pop" Z.X.env (eval o Z.X.env) = eval o Z.X.env := by rfl)
    (hfew : ((backTo cpos (starEach [ix] Z.X.env)).all (fun x => !x.1) && (backToKw cpos (keywordEach [] Z.X.env)).all (fun x => x.1.isSome)
      && decide (([ix] : List Expr).length + ([] : List Keyword).length + (if ([] : List Keyword).isEmpty then 0 else 1) < 30)) = true := by rfl)
    (hline : (apos.endLine == cpos.line) = true := by rfl) (hs : starEach [ix] Z.X.env = (false, eval ix Z.X.env) :: starEach [] Z.X.env := by rfl) (hplain : (backTo cpos (starEach [] Z.X.env)).any (·.1) = false := by rfl) :
    ME Z (.Call (.Attribute o "pop" apos) [ix] [] cpos) (mDPopP i mp mk) false true :=
  pe_imp (pe_bm PySem.F.plainAttrs_dict PySem.F.slot_dict_pop PySem.F.type_dict_pop (mt_pop1 (by have := hr.un; omega)) ho (pa_cons hk pa_nil hs) hbase hfew hline hs hplain) fun σ H Q q => by
  obtain ⟨env, G, Os, s, q⟩ := q
  refine ⟨env, G, Os, s, ?_⟩
  unfold mDPopP Sm.bind at q
  cases e1 : mp env with
  | bad => rw [e1] at q; exact q
  | ex c env1 =>
    rw [e1] at q
    intro G' H' Os' s' t
    obtain ⟨rfl, rfl, _⟩ := id t
    exact q G' H' Os' s' (Stp.gen t)
  | ok p env1 =>
    rw [e1] at q
    dsimp only at q
    cases e2 : nodeAt i p env1 with
    | none => rw [e2] at q; exact q.elim
    | some w1 =>
      have hw : ∃ l ws, w1 = .dct true (.t l) ws := by
        rw [e2] at q
        cases w1 <;> first
          | exact q.elim
          | (rename_i b ks _
             cases b <;> cases ks <;> first
              | exact q.elim
              | exact ⟨_, _, rfl⟩)
      obtain ⟨l, ws, rfl⟩ := hw
      rw [e2] at q
      obtain ⟨w', b1, b2, b3⟩ := nodeAt_some e2
      refine ⟨w', _, b1, b2, b3, fun v u G1 H1 Os1 s1 t1 hv nv => ?_⟩
      obtain ⟨rfl, rfl, t1'⟩ := id t1
      obtain ⟨v0, u0, O1, R, fo⟩ := s1.focus b1 b2 b3
      have ev : v0 = v := by have := fo.sv; rw [hv] at this; cases this; rfl
      subst ev
      have eu := fo.same s1 hv nv
      subst eu
      obtain ⟨a, vs, rfl, rfl, ha, hra⟩ := id fo.ro
      refine ⟨.inr (.inr (.inl ⟨rfl, .inr ⟨_, ha.2⟩⟩)), env1, G1, Os1, s1, ?_⟩
      cases em : mk env1 with
      | bad => simp only [em] at q
      | ex c env2 => simp only [em] at q
      | ok kk env2 =>
        simp only [em] at q
        intro y G2 H2 Os2 s2 hy t2
        obtain ⟨rfl, rfl, t2'⟩ := id t2
        cases kk with
        | inl _ => exact q.elim
        | inr k =>
          dsimp only at q
          obtain ⟨O1', R', f2⟩ := fo.on b1 b2 b3 s2 t2'
          obtain ⟨a2, vs2, e5, rfl, ha2, hra2⟩ := id f2.ro
          cases e5
          obtain ⟨c, rfl, hc⟩ := hy
          cases ed : dAt l ws k with
          | none => rw [ed] at q; exact q.elim
          | some w =>
            rw [ed] at q
            dsimp only at q
            have od := dAt_rf (l := l) k hra2
            rw [ed] at od
            obtain ⟨v, hv2, rv⟩ := od
            obtain ⟨c1, c2⟩ := dCut_zip (k := k) ha2.1
            refine ⟨a, _, k, c, v, rfl, rfl, ha2.2, s2.sub _ _ hc, by rw [dAt_val k ha2.1]; exact hv2, ?_⟩
            rw [c1]
            obtain ⟨Os3, s3, t3⟩ := f2.upd s2 (Ow := []) (y := .dct true (.t (dCutK l k)) (dCutW l ws k)) (O1' := [a]) (o := .dT ((dCutK l k).zip (dCutW l vs2 k))) List.mem_cons_self ⟨a, _, rfl, rfl, ⟨c2, upd_same⟩, dCut_rf hra2⟩ (by simp) (fun b hb => .inl hb) (by rw [List.append_nil]; exact s2.nd) (fun _ z => nomatch z)
            rw [List.append_nil] at t3
            rw [putAt_of b1] at q
            refine q v G2 _ Os3 [] s3 (RO.ofF rv) (OwnK.nil s3) ?_
            show Step G H Os2.flatten G2 _ (Os3.flatten ++ [])
            rw [List.append_nil]
            have u1 : Step G H Os2.flatten G1 H1 Os2.flatten := (Stp.gen t1).less fun x hx => List.mem_append_left _ hx
            have u2 : Step G1 H1 Os2.flatten G2 H2 Os2.flatten := (Stp.gen t2).less fun x hx => List.mem_append_left _ hx
            exact (u1.trans u2).trans t3
/-! ### place[ix] += n: an own list of ints at a place -/
def sAugP (i : Nat) (f : Int → Int → Int) (mp : Sm (List Nat)) (mi me : Sm W) : Sm Fl := Sm.bind mp fun p env => match nodeAt i p env with
  | some (.lst true xs) => match mi env with
    | .ok (.int n) _ => match ixN xs.length n with
      | some k => match xs[k]? with
        | some (.int a) => match me env with
          | .ok (.int b) _ => .ok .nx (putAt i p (.lst true (xs.set k (.int (f a b)))) env)
          | _ => .bad
        | _ => .bad
      | none => .bad
    | _ => .bad
  | _ => .bad
theorem r_augP {env : List W} (i : Nat) (f : Int → Int → Int) (mp : Sm (List Nat)) (mi me : Sm W) : sAugP i f mp mi me env = match mp env with
  | .ok p env => (match nodeAt i p env with
    | some (.lst true xs) => (match mi env with
      | .ok (.int n) _ => (match ixN xs.length n with
        | some k => (match xs[k]? with
          | some (.int a) => (match me env with
            | .ok (.int b) _ => .ok .nx (putAt i p (.lst true (xs.set k (.int (f a b)))) env)
            | _ => .bad)
          | _ => .bad)
        | none => .bad)
      | _ => .bad)
    | _ => .bad)
  | .ex c e' => .ex c e'
  | .bad => .bad := by
  unfold sAugP
  rw [r_bind]
  cases mp env <;> rfl
theorem ms_augP {Z : Zt} {o ix e : Expr} {i : Nat} {op : Operator} {f : Int → Int → Int} {mp : Sm (List Nat)} {mi me : Sm W} {k1 k2 : Bool} {pos tpos : Pos} (ho : MP Z o i mp) (hi : ME Z ix mi true k1) (hp : PIp Z.X op (ipI f)) (he : ME Z e me true k2)
    (ha : ∀ w0 j0 y0, augStore ix w0 j0 y0 = (do holding [y0, w0, j0] (setItem w0 j0 y0); release [y0, w0, j0] []; pure .next) := by intros; rfl) :
    MS Z (.AugAssign (.Subscript o ix tpos) op e pos) (sAugP i f mp mi me) := ps_imp (ps_augS ho hi getR_list he hp set_list ha) fun E σ H q => by
  obtain ⟨env, G, Os, s, q⟩ := q
  refine ⟨env, G, Os, s, ?_⟩
  unfold sAugP Sm.bind at q
  cases e0 : mp env with
  | bad => simp only [e0] at q; exact q
  | ex c env1 =>
    simp only [e0] at q
    exact fun G' H' Os' s' t' => q σ G' H' Os' s' t'.st (IoS.refl _)
  | ok p env1 =>
    simp only [e0] at q
    cases e2 : nodeAt i p env1 with
    | none => rw [e2] at q; exact q.elim
    | some w1 =>
      have hw : ∃ xs, w1 = .lst true xs := by
        rw [e2] at q
        cases w1 <;> first
          | exact q.elim
          | (rename_i b _; cases b <;> first | exact q.elim | exact ⟨_, rfl⟩)
      obtain ⟨xs, rfl⟩ := hw
      rw [e2] at q
      obtain ⟨w', b1, b2, b3⟩ := nodeAt_some e2
      refine ⟨w', _, b1, b2, b3, fun v u G1 H1 Os1 s1 t1 hv nv => ?_⟩
      obtain ⟨rfl, rfl, t1'⟩ := id t1
      obtain ⟨v0, u0, O1, R, fo⟩ := s1.focus b1 b2 b3
      have ev : v0 = v := by have := fo.sv; rw [hv] at this; cases this; rfl
      subst ev
      have eu := fo.same s1 hv nv
      subst eu
      refine ⟨env1, G1, Os1, s1, ?_⟩
      cases ei : mi env1 with
      | bad => simp only [ei] at q; exact q.elim
      | ex c env2 => simp only [ei] at q; exact q.elim
      | ok wi env2 =>
        cases wi with
        | int n =>
          simp only [ei] at q
          intro jv G2 H2 Os2 Oj s2 rj oj t2
          obtain ⟨rfl, rfl, t2'⟩ := id t2
          obtain ⟨_, rfl⟩ := rj
          cases ek : ixN xs.length n with
          | none => simp only [ek] at q; exact q.elim
          | some k =>
            simp only [ek] at q
            cases ex : xs[k]? with
            | none => simp only [ex] at q; exact q.elim
            | some wa =>
              cases wa with
              | int av =>
                simp only [ex] at q
                obtain ⟨O2, R2, f2⟩ := fo.on b1 b2 b3 s2 t2'
                obtain ⟨a, vs1, rfl, rfl, g3, g4⟩ := id f2.ro
                obtain ⟨v1, hv1, rv1⟩ := g4.get ex
                obtain rfl : v1 = .int av := rv1
                have hat : atI vs1 n = some (.int av) := by
                  unfold atI
                  rw [← g4.len, ek]
                  exact hv1
                refine ⟨a, vs1, n, .int av, rfl, rfl, SqL.of g3, hat, env2, G2, Os2, s2, ?_⟩
                cases em : me env2 with
                | bad => simp only [em] at q; exact q.elim
                | ex c env3 => simp only [em] at q; exact q.elim
                | ok wb env3 =>
                  cases wb with
                  | int b =>
                    simp only [em] at q
                    intro v2 G3 H3 Os3 O3 s3 r3 o3 t3
                    obtain ⟨rfl, rfl, t3'⟩ := id t3
                    obtain ⟨_, rfl⟩ := r3
                    refine ⟨av, b, rfl, rfl, ?_⟩
                    obtain ⟨O4, R4, f4⟩ := f2.on b1 b2 b3 s3 t3'
                    obtain ⟨a2, vs2, e5, rfl, k3, k4⟩ := id f4.ro
                    cases e5
                    obtain ⟨Os4, s4, t4⟩ := f4.upd s3 (Ow := []) (y := .lst true (xs.set k (.int (f av b)))) (O1' := [a]) (o := .lst (vs2.set k (.int (f av b)))) List.mem_cons_self ⟨a, _, rfl, rfl, upd_same, k4.set (w := .int (f av b)) (v := .int (f av b)) rfl k⟩ (by simp) (fun b hb => .inl hb) (by rw [List.append_nil]; exact s3.nd) (fun _ z => nomatch z)
                    rw [List.append_nil] at t4
                    rw [putAt_of b1] at q
                    exact ⟨a, vs2, n, k, rfl, rfl, k3, by rw [← k4.len]; exact ek, q σ G3 _ Os4 s4 (((t1.st.trans t2.st).trans t3.st).trans t4) (IoS.refl _)⟩
                  | _ => simp only [em] at q; exact q.elim
              | _ => simp only [ex] at q; exact q.elim
        | _ => simp only [ei] at q; exact q.elim
/-! ### what stands at a place is frozen, all of it -/
def gFzP (i : Nat) (p : List Nat) : Sm Unit := fun env => match nodeAt i p env with
  | some w => if w.fzOk = true then .ok () (putAt i p w.fzD env) else .bad
  | _ => .bad
theorem r_gfzP {env : List W} (i : Nat) (p : List Nat) : gFzP i p env = match nodeAt i p env with
  | some w => if w.fzOk = true then .ok () (putAt i p w.fzD env) else .bad
  | _ => .bad := rfl
theorem mss_fzP {Z : Zt} {st : List Stmt} {m : Sm Fl} (i : Nat) (p : List Nat) (h : MSs Z st m) : MSs Z st (sGo (gFzP i p) m) := pss_imp h fun E σ H q => by
  obtain ⟨env, G, Os, s, q⟩ := q
  unfold sGo gFzP Sm.bind at q
  cases e : nodeAt i p env with
  | none => simp only [e] at q; exact q.elim
  | some w1 =>
    simp only [e] at q
    by_cases hf : w1.fzOk = true
    · simp only [if_pos hf] at q
      obtain ⟨w', b1, b2, b3⟩ := nodeAt_some e
      obtain ⟨v, u, O1, R, fo⟩ := s.focus b1 b2 b3
      have ndp : (R ++ O1).Nodup := fo.pm.nodup_iff.mpr s.nd
      have gO : ∀ b ∈ O1, G b = none := fun b hb => s.gn b (fo.in1 b hb)
      have rf : RF Z.D (lentH G H O1) w1.fzD u := RO.deep (S := O1) w1 u O1 hf fo.ro fun b hb => ⟨hb, gO b hb⟩
      have notO : ∀ b ∈ R, b ∉ O1 := fun b hb z => (List.nodup_append.mp ndp).2.2 b hb b z rfl
      obtain ⟨Os', k1, k2⟩ := fo.back (lentH G H O1) H w1.fzD [] lent_mono (sub_lentS s.sub) (fun _ _ _ h => h) (fun b hb => lent_none (notO b hb) (s.gn b (fo.inR b hb))) (RO.ofF rf)
        (by rw [List.append_nil]; exact (List.nodup_append.mp ndp).1) (fun b hb => nomatch hb)
      rw [putAt_of b1] at q
      refine TSx.on k1 ⟨lent_mono, fun _ _ h _ => h, fun b x hb hn _ g => ?_, fun b hb => .inl ?_⟩ (IoS.refl _) q
      · refine lent_none (fun z => hn ?_) g
        exact fo.in1 b z
      · rcases List.mem_append.mp (k2.mem_iff.mp hb) with z | z
        · exact fo.inR b z
        · cases z
    · simp only [if_neg hf] at q; exact q.elim
/-! ### for x in place: what holds the place stays aside -/
def sForP (i : Nat) (f : Tg) (body : Sm Fl) (kill : List Nat) (mp : Sm (List Nat)) : Sm Fl := Sm.bind mp fun p env => match nodeAt i p env with
  | some (.lst true ws) => (match mFor f body kill ws (env.set i .dead) with
    | .ok .nx env2 => .ok .nx (env2.set i (env[i]?.getD .dead))
    | _ => .bad)
  | _ => .bad
theorem r_forP {env : List W} (i : Nat) (f : Tg) (body : Sm Fl) (kill : List Nat) (mp : Sm (List Nat)) : sForP i f body kill mp env = match mp env with
  | .ok p env => (match nodeAt i p env with
    | some (.lst true ws) => (match mFor f body kill ws (env.set i .dead) with
      | .ok .nx env2 => .ok .nx (env2.set i (env[i]?.getD .dead))
      | _ => .bad)
    | _ => .bad)
  | .ex c e' => .ex c e'
  | .bad => .bad := by
  unfold sForP
  rw [r_bind]
  cases mp env <;> rfl
/-- a slot set aside is put back -/
theorem StOk.aside {D : Dn} {G H G' H' : Hp} {env env' : List W} {σ σ' : L2.St} {Os Os' : List (List Addr)} {i : Nat} {w0 : W} {v : V} {O : List Addr} (s : StOk D G H env σ Os) (h2 : Os[i]? = some O) (ro : RO D G H w0 v O) (s' : StOk D G' H' env' σ' Os') (hv : σ'[i]? = some (some v)) (t : Step G H (Os.set i []).flatten G' H' Os'.flatten) :
    StOk D G' H' (env'.set i w0) σ' (Os'.set i O) ∧ Step G H Os.flatten G' H' (Os'.set i O).flatten := by
  have inO : ∀ a ∈ O, a ∈ Os.flatten := fun a ha => flat_mem h2 ha
  have ndO : O.Nodup := nd_at s.nd h2
  have out : ∀ a ∈ O, a ∉ (Os.set i []).flatten := fun a ha => onceO s.nd h2 ha
  have hk : ∀ a ∈ O, ∀ o, H a = some o → H' a = some o := fun a ha o ho => t.keep a o ho (out a ha)
  have gn' : ∀ a ∈ O, G' a = none := fun a ha => by
    obtain ⟨o, ho, nt⟩ := s.thn a (inO a ha)
    exact t.gnew a o ho (out a ha) nt (s.gn a (inO a ha))
  have dj : ∀ a ∈ O, a ∉ Os'.flatten := fun a ha z => by
    obtain ⟨o, ho, _⟩ := s.thn a (inO a ha)
    rcases t.new a z with y | y
    · exact out a ha y
    · rw [ho] at y; cases y
  have hi : i < Os'.length := by
    rw [s'.sl.len.2]
    exact (List.getElem?_eq_some_iff.mp hv).1
  have pm := flat_upd (O := O) hi
  have nd : (Os'.flatten ++ O).Nodup := List.nodup_append.mpr ⟨s'.nd, ndO, fun a ha b hb e => by
    subst e
    exact dj a hb ha⟩
  have sub : ∀ a ∈ (Os'.set i O).flatten, a ∈ Os'.flatten ∨ a ∈ O := fun a ha => List.mem_append.mp (pm.mem_iff.mp (List.mem_append_left _ ha))
  have z := Sl.set (D := D) (G := G') (H := H') (w := w0) (s := some v) (O := O) (.inl ⟨v, rfl, RO.mono t.mono w0 v O hk ro⟩) i s'.sl
  rw [set_self hv] at z
  refine ⟨⟨z, s'.sub, fun a ha => ?_, (List.nodup_append.mp (pm.nodup_iff.mpr nd)).1⟩, t.mono, fun a o h n => t.keep a o h fun y => n (flat_sub a y), fun a o h n nt g => t.gnew a o h (fun y => n (flat_sub a y)) nt g, fun a ha => ?_⟩
  · rcases sub a ha with y | y
    · exact s'.gn a y
    · exact gn' a y
  · rcases sub a ha with y | y
    · exact (t.new a y).imp (flat_sub a) id
    · exact .inl (inO a y)
theorem ms_forP {Z : Zt} {tg it : Expr} {body : List Stmt} {f : Tg} {mb : Sm Fl} {i : Nat} {mp : Sm (List Nat)} {pos : Pos} (kill : List Nat) (hp : PassesOwn (model Z.X.prog Z.X.w) Z.X.A Z.X.env Z.X.xe) (hc : Z.X.calm = true) (ho : MP Z it i mp) (hg : MG Z tg f) (hb : MSs Z body mb) (hio : Z.io i = true := by rfl)
    (hs : ∀ x, foldedSetIterable it Z.X.env x = pure x := by intro _; rfl) : MS Z (.For tg it body [] pos) (sForP i f mb kill mp) := ps_imp (ps_for hp hc (pi_list ho) hg hb hs) fun E σ H q => by
  obtain ⟨env, G, Os, s, q⟩ := q
  refine ⟨env, G, Os, s, ?_⟩
  unfold sForP Sm.bind at q
  cases e0 : mp env with
  | bad => simp only [e0] at q; exact q
  | ex c env1 =>
    simp only [e0] at q
    exact fun G' H' Os' s' t' => q σ G' H' Os' s' t'.st (IoS.refl _)
  | ok p env1 =>
    simp only [e0] at q
    cases e2 : nodeAt i p env1 with
    | none => rw [e2] at q; exact q.elim
    | some w1 =>
      have hw : ∃ xs, w1 = .lst true xs := by
        rw [e2] at q
        cases w1 <;> first
          | exact q.elim
          | (rename_i b _; cases b <;> first | exact q.elim | exact ⟨_, rfl⟩)
      obtain ⟨xs, rfl⟩ := hw
      rw [e2] at q
      dsimp only at q
      obtain ⟨w0, b1, b2, b3⟩ := nodeAt_some e2
      refine ⟨w0, _, b1, b2, b3, fun v u G1 H1 Os1 s1 t1 hv nv => ?_⟩
      obtain ⟨rfl, rfl, t1'⟩ := id t1
      obtain ⟨sv, O, k1, k2, k3⟩ := s1.sl.at b1
      have ro : RO Z.D G1 H1 w0 v O := by
        rcases k3 with ⟨y, ey, r⟩ | ⟨z, _⟩
        · rw [hv] at k1
          cases k1
          cases ey
          exact r
        · exact absurd z b2
      obtain ⟨u', O1, R, i1, i2, i3, _⟩ := RO.place p ro b3
      have eu := (i3 H1 fun _ _ _ h => h).uniq nv
      subst eu
      obtain ⟨a, vs, rfl, rfl, ha, hra⟩ := i1
      have aO : a ∈ O := i2.mem_iff.mp (List.mem_append_right _ List.mem_cons_self)
      rw [b1] at q
      cases et : mFor f mb kill xs (env1.set i .dead) with
      | bad => simp only [et] at q; exact q.elim
      | ex c env2 => simp only [et] at q; exact q.elim
      | ok fl env2 =>
        cases fl with
        | nx =>
          simp only [et, Option.getD_some] at q
          have out : a ∉ (Os1.set i []).flatten := onceO s1.nd k2 aO
          have fin : ∀ σ' G' H' Os', StOk Z.D G' H' env2 σ' Os' → Step G1 H1 (Os1.set i []).flatten G' H' Os'.flatten → IoS Z.io σ σ' → E.nx σ' H' := fun σ' G' H' Os' s' t io => by
            obtain ⟨s2, t2⟩ := s1.aside k2 ro s' (by rw [io i hio]; exact hv) t
            exact q σ' G' H' _ s2 (t1.st.trans t2) io
          refine ⟨a, rfl, ⟨vs, SqL.of ha⟩, fun j m σ' H' => m = xs.length - j ∧ j ≤ xs.length ∧ ∃ env' G' Os', StOk Z.D G' H' env' σ' Os' ∧ Step G1 H1 (Os1.set i []).flatten G' H' Os'.flatten ∧ IoS Z.io σ σ' ∧ mFor f mb kill (xs.drop j) env' = .ok .nx env2,
            ⟨xs.length, rfl, Nat.zero_le _, env1.set i .dead, G1, Os1.set i [], s1.kill [i], Step.refl _ _ _, IoS.refl _, et⟩, ?_⟩
          rintro j m σ2 H2 ⟨rfl, hj, env3, G3, Os3, s3, t3, io3, e3⟩
          have ha3 : H2 a = some (.lst vs) := t3.keep a _ ha out
          have hs3 : SqL Z.X.K H2 a vs := SqL.of ha3
          by_cases hl : j < xs.length
          · rw [List.drop_eq_getElem_cons hl] at e3
            obtain ⟨x, hx, rx⟩ := hra.get (List.getElem?_eq_getElem hl)
            refine .inr ⟨⟨vs, x, hs3, hx⟩, fun σ4 H4 => ∃ env4 G4 Os4, StOk Z.D G4 H4 env4 σ4 Os4 ∧ Step G1 H1 (Os1.set i []).flatten G4 H4 Os4.flatten ∧ IoS Z.io σ σ4 ∧ mFor f mb kill (xs.drop (j + 1)) env4 = .ok .nx env2,
              fun σ4 H4 ⟨env4, G4, Os4, r1, r2, r3, r4⟩ => ⟨xs.length - (j + 1), by omega, rfl, hl, env4, G4, Os4, r1, r2, r3, r4⟩, fun y H4 yl => ?_⟩
            obtain ⟨rfl, yl⟩ := yl
            have ey : y = x := Option.some.inj ((yl vs hs3).symm.trans hx)
            subst ey
            unfold mFor at e3
            cases ef : f xs[j] env3 with
            | none => simp only [ef] at e3; cases e3
            | some env4 =>
              simp only [ef] at e3
              refine ⟨env3, G3, Os3, xs[j], env4, s3, RF.mono t3.mono _ _ rx, ef, fun σ5 Os5 s5 hsub io5 _ => ⟨env4, G3, Os5, s5, ?_⟩⟩
              have t5 : Step G1 H1 (Os1.set i []).flatten G3 H4 Os5.flatten := t3.less hsub
              have again : ∀ {env6 : List W}, mFor f mb kill (xs.drop (j + 1)) (killE kill env6) = .ok .nx env2 → ∀ σ' G' H' Os', StOk Z.D G' H' env6 σ' Os' → Step G3 H4 Os5.flatten G' H' Os'.flatten → IoS Z.io σ5 σ' →
                  ∃ env4 G4 Os4, StOk Z.D G4 H' env4 σ' Os4 ∧ Step G1 H1 (Os1.set i []).flatten G4 H' Os4.flatten ∧ IoS Z.io σ σ' ∧ mFor f mb kill (xs.drop (j + 1)) env4 = .ok .nx env2 := fun {env6} e6 σ' G' H' Os' s' t' io' =>
                ⟨killE kill env6, G', killO kill Os', s'.kill kill, (t5.trans t').less fun b hb => killO_sub b hb, (io3.trans io5).trans io', e6⟩
              cases eb : mb env4 with
              | bad => simp only [eb] at e3; cases e3
              | ex c env5 => simp only [eb] at e3; cases e3
              | ok fl env5 =>
                cases fl with
                | nx => simp only [eb] at e3; exact again e3
                | ct => simp only [eb] at e3; exact again e3
                | bk =>
                  simp only [eb] at e3
                  cases e3
                  exact fun σ' G' H' Os' s' t' io' => fin σ' G' H' Os' s' (t5.trans t') ((io3.trans io5).trans io')
                | rt w => simp only [eb] at e3; cases e3
          · have e4 : j = xs.length := by omega
            subst e4
            rw [List.drop_length] at e3
            cases e3
            exact .inl ⟨⟨vs, hs3, by rw [← hra.len]; exact Nat.le_refl _⟩, fin σ2 G3 H2 Os3 s3 t3 io3⟩
        | _ => simp only [et] at q; exact q.elim
end Ev

namespace Ev
open PySem PySem.Spec L2

/-! ### dict(pairs), keys that differ -/
def pairsD : List W → Option (List Key × List W)
  | [] => some ([], [])
  | .tup [a, x] :: r => match wKey a, pairsD r with
    | some k, some q => some (k :: q.1, x :: q.2)
    | _, _ => none
  | _ => none
def dictW (w : W) : Option W := (lisW w).bind fun ws => (pairsD ws).bind fun q => if q.1.Nodup then some (.dct true (.k q.1) q.2) else none
theorem paired_imp {α β : Type} {F G : α → β → Prop} (h : ∀ a b, F a b → G a b) : ∀ {l : List α} {m : List β}, Paired F l m → Paired G l m
  | _, _, .nil => .nil
  | _, _, .cons x t => .cons (h _ _ x) (paired_imp h t)
theorem merge_nd : ∀ (more acc : List (Key × V)), ((acc ++ more).map (·.1)).Nodup → mergeK acc more = acc ++ more
  | [], acc, _ => (List.append_nil acc).symm
  | kv :: more, acc, h => by
    have hn : valV acc kv.1 = none := by
      cases e : valV acc kv.1 with
      | none => rfl
      | some y =>
        exfalso
        have z : (acc.any fun t => decide (t.1 = kv.1)) = true := by rw [valV_any, e]; rfl
        obtain ⟨t, ht, et⟩ := List.any_eq_true.mp z
        rw [List.map_append] at h
        exact (List.nodup_append.mp h).2.2 kv.1 (List.mem_map.mpr ⟨t, ht, of_decide_eq_true et⟩) kv.1 List.mem_cons_self rfl
    show mergeK (putK acc kv.1 kv.2) more = _
    rw [putK_new kv.2 hn, merge_nd more (acc ++ [(kv.1, kv.2)]) (by rw [List.append_assoc]; exact h), List.append_assoc]
    rfl
theorem pairs_at {D : Dn} {G : Hp} : ∀ {ws : List W} {vs : List V} {ks : List Key} {xs : List W}, RFs D G ws vs → pairsD ws = some (ks, xs) →
    ∃ (ps : List Addr) (us : List V), vs = ps.map V.ref ∧ ks.length = us.length ∧ RFs D G xs us ∧ Paired (fun p (kv : Key × V) => SqT D.K G p [kV kv.1, kv.2]) ps (ks.zip us)
  | [], _, _, _, r, e => by
    cases e
    rw [show _ = [] from r]
    exact ⟨[], [], rfl, rfl, rfl, .nil⟩
  | w :: ws, _, ks, xs, r, e => by
    obtain ⟨v, vs, rfl, r1, r2⟩ := r
    unfold pairsD at e
    split at e
    · cases ‹_ :: _ = []›
    · rename_i a x r' eq
      cases eq
      cases e1 : wKey a with
      | none => simp only [e1] at e; cases e
      | some k =>
        cases e2 : pairsD ws with
        | none => simp only [e1, e2] at e; cases e
        | some q =>
          simp only [e1, e2] at e
          cases e
          obtain ⟨ps, us, rfl, h2, h3, h4⟩ := pairs_at r2 e2
          obtain ⟨p, ys, rfl, g1, y1, t1, rfl, g2, y2, t2, rfl, g3, g4⟩ := r1
          have z : t2 = [] := g4
          subst z
          have ek := g2.key e1
          subst ek
          exact ⟨p :: ps, y2 :: us, rfl, by rw [List.length_cons, List.length_cons, h2], ⟨y2, us, rfl, g3, h3⟩, .cons g1 h4⟩
    · cases e
theorem me_dictOf {Z : Zt} {e : Expr} {m : Sm W} {p k1 : Bool} {p1 p2 : Pos} (hc : Z.X.calm = true) (hm : Z.X.mg "dict" = none) (ha : ME Z e m p k1) (hg : Gl Z.X "dict" := by rfl) (hs : starEach [e] Z.X.env = (false, eval e Z.X.env) :: starEach [] Z.X.env := by rfl) : ME Z (.Call (.Name "dict" p1) [e] [] p2) (mUn dictW m) p true :=
  me_t1 (fun G H w1 v1 O1 w Q s r e q => by
    unfold dictW at e
    cases h : lisW w1 with
    | none => rw [h] at e; cases e
    | some ws =>
      rw [h, Option.bind_some] at e
      cases h2 : pairsD ws with
      | none => rw [h2] at e; cases e
      | some kx =>
        obtain ⟨ks, xs⟩ := kx
        rw [h2, Option.bind_some] at e
        by_cases hn : ks.Nodup
        · rw [if_pos hn] at e
          cases e
          obtain ⟨a, vs, rfl, h3, h4⟩ := lisW_at s r h
          obtain ⟨ps, us, rfl, g1, g2, g3⟩ := pairs_at h4 h2
          refine ⟨_, call_dictP hc, a, ps, ks.zip us, rfl, h3, paired_imp (fun _ _ z => s.sqT z) g3, fun d nd => ?_⟩
          have em : mergeK [] (ks.zip us) = ks.zip us := by
            rw [merge_nd _ [] (by rw [List.nil_append, List.map_fst_zip (by omega)]; exact hn)]
            rfl
          rw [em]
          exact q (.ref d) G _ [d] (sub_upd s nd) ⟨d, us, rfl, rfl, ⟨g1, upd_same⟩, g2⟩ (by simp) (fun b hb => by rw [List.mem_singleton.mp hb]; exact sub_none s nd) (step_own nd)
        · rw [if_neg hn] at e; cases e) hg hm PyProof.Rows.boot_dict ha (by decide) (by decide) hs
end Ev

namespace Ev
open PySem PySem.Spec L2

/-! ### a op b op c, b may act -/
def mChainI (f g : W → W → Option W) (m1 m2 m3 : Sm W) : Sm W := Sm.bind m1 fun w1 => Sm.bind m2 fun w2 => if (w1.frz && w2.frz) = true then (Sm.bind (lft ((f w1 w2).bind blW)) fun b => if b = true then Sm.bind m3 fun w3 => lft (g w2 w3) else Sm.ret (.bl false)) else fun _ => .bad
theorem tx_chainI {D : Dn} {Wx : WX} {r r' : R2} {f g : W → W → Option W} {m1 m2 m3 : Sm W} {k1 k2 k3 : Bool} (o : RelS D r f) (o' : RelS D r' g) {σ : L2.St} {H : Hp} {Q : VK} (q : TX D Wx false true (mChainI f g m1 m2 m3) σ H Q) :
    tChain r r' (TX D Wx true k1 m1) (TX D Wx false k2 m2) (TX D Wx true k3 m3) σ H Q := by
  obtain ⟨env, G, Os, s, q⟩ := q
  refine ⟨env, G, Os, s, ?_⟩
  unfold mChainI Sm.bind at q
  cases e1 : m1 env with
  | bad => rw [e1] at q; exact q
  | ex c env1 =>
    rw [e1] at q
    exact fun G' H' Os' s' t => q G' H' Os' s' (t.and false)
  | ok w1 env1 =>
    rw [e1] at q
    intro v1 G1 H1 Os1 O1 s1 r1 o1 t1
    refine ⟨env1, G1, Os1, s1, ?_⟩
    cases e2 : m2 env1 with
    | bad => simp only [e2] at q
    | ex c env2 =>
      simp only [e2] at q
      intro G' H' Os' s' t
      have z := (t1.less (O2 := []) fun _ z => nomatch z).trans t
      exact q G' H' Os' s' z
    | ok w2 env2 =>
      simp only [e2] at q
      intro v2 G2 H2 Os2 O2 s2 r2 o2 t2
      by_cases hf : (w1.frz && w2.frz) = true
      · simp only [if_pos hf] at q
        obtain ⟨hf1, hf2⟩ := Bool.and_eq_true_iff.mp hf
        obtain ⟨rfl, rf1⟩ := r1.toF hf1
        obtain ⟨rfl, rf2⟩ := r2.toF hf2
        have t2n := t2.less (O2 := []) fun _ z => nomatch z
        have r1' : RO D G2 H2 w1 v1 [] := RO.ofF (RF.mono t2.gen.mono _ _ rf1)
        have t12 : Stp false env G H Os env2 G2 H2 Os2 [] := (t1.less (O2 := []) fun _ z => nomatch z).trans t2n
        cases ef : f w1 w2 with
        | none => simp only [ef, Option.bind_none, lft] at q
        | some wb =>
          have key : ∃ b, wb = .bl b := by
            cases wb <;> first
              | exact ⟨_, rfl⟩
              | (exfalso; simp only [ef, Option.bind_some, blW, lft] at q; done)
          obtain ⟨b, rfl⟩ := key
          simp only [ef, Option.bind_some, blW, lft] at q
          refine o G2 H2 w1 w2 v1 v2 [] [] (.bl b) _ s2.sub r1' r2 ef fun v G3 H3 Ow sub ro nd gn st => ?_
          obtain ⟨rfl, rfl⟩ := ro
          have s3 := s2.step st sub
          have t3 : Stp false env G H Os env2 G3 H3 Os2 [] := t12.trans (Stp.grow true (env := env2) (Os := Os2) st)
          refine ⟨b, rfl, ?_⟩
          cases b with
          | false =>
            rw [if_neg Bool.false_ne_true]
            simp only [Bool.false_eq_true, if_false, Sm.ret] at q
            exact q (.bl false) G3 H3 Os2 [] s3 ⟨rfl, rfl⟩ (OwnK.nil s3) t3
          | true =>
            rw [if_pos rfl]
            simp only [if_true] at q
            refine ⟨env2, G3, Os2, s3, ?_⟩
            cases e3 : m3 env2 with
            | bad => simp only [e3] at q
            | ex c env3 =>
              simp only [e3] at q
              exact fun G' H' Os' s' t => q G' H' Os' s' (t3.trans t)
            | ok w3 env3 =>
              simp only [e3] at q
              intro v4 G4 H4 Os4 O4 s4 r4 o4 t4
              cases eg : g w2 w3 with
              | none => simp only [eg] at q
              | some w =>
                simp only [eg] at q
                have r2' : RO D G4 H4 w2 v2 [] := RO.ofF (RF.mono (st.mono.trans t4.gen.mono) _ _ rf2)
                exact o' G4 H4 w2 w3 v2 v4 [] O4 w Q s4.sub r2' r4 eg (Ans.of (p := false) s4 (t3.trans t4) q)
      · simp only [if_neg hf] at q
theorem mt_chainI {Z : Zt} {op op' : CmpOp} {f g : W → W → Option W} {a b c : Expr} {m1 m2 m3 : Sm W} {k1 k2 k3 : Bool} {pos : Pos} (o : OpS Z (compareOp op) f) (o' : OpS Z (compareOp op') g) (ha : ME Z a m1 true k1) (hb : ME Z b m2 false k2) (hc : ME Z c m3 true k3)
    (hm : lastMarks [op, op'] [b, c] = false := by with_unfolding_all rfl) : MT Z (.Compare a [op, op'] [b, c] pos) (toB (mChainI f g m1 m2 m3)) false :=
  pt_imp (pt_chain op_any op_any ha hb hc hm) fun _ _ _ q => tx_chainI o o' (tt_val q)
theorem r_chainI {env : List W} (f g : W → W → Option W) (m1 m2 m3 : Sm W) : mChainI f g m1 m2 m3 env = match m1 env with
  | .ok w1 e1 => (match m2 e1 with
    | .ok w2 e2 => if (w1.frz && w2.frz) = true then (match (f w1 w2).bind blW with
      | some b => if b = true then (match m3 e2 with
        | .ok w3 e3 => (match g w2 w3 with
          | some r => .ok r e3
          | none => .bad)
        | .ex c e' => .ex c e'
        | .bad => .bad) else .ok (.bl false) e2
      | none => .bad) else .bad
    | .ex c e' => .ex c e'
    | .bad => .bad)
  | .ex c e' => .ex c e'
  | .bad => .bad := by
  unfold mChainI
  rw [r_bind]
  cases m1 env with
  | ok w1 e1 =>
    dsimp only
    rw [r_bind]
    cases m2 e1 with
    | ok w2 e2 =>
      dsimp only
      split
      · rw [r_bind, r_lft]
        cases (f w1 w2).bind blW with
        | none => rfl
        | some b =>
          dsimp only
          split
          · rw [r_bind]
            cases m3 e2 with
            | ok w3 e3 => dsimp only; rw [r_lft]; cases g w2 w3 <;> rfl
            | _ => rfl
          · rfl
      · rfl
    | _ => rfl
  | _ => rfl
/-! ### methods of a list at a place -/
theorem me_appendP {Z : Zt} {o e : Expr} {i : Nat} {mp : Sm (List Nat)} {m : Sm (List W)} {apos cpos : Pos} (ho : MP Z o i mp) (ha : MA Z [e] m true) (hbase : attributeBase o "append" Z.X.env (eval o Z.X.env) = eval o Z.X.env := by rfl)
    (hfew : ((backTo cpos (starEach [e] Z.X.env)).all (fun x => !x.1) && (backToKw cpos (keywordEach [] Z.X.env)).all (fun x => x.1.isSome)
      && decide (([e] : List Expr).length + ([] : List Keyword).length + (if ([] : List Keyword).isEmpty then 0 else 1) < 30)) = true := by rfl)
    (hline : (apos.endLine == cpos.line) = true := by rfl) (hs : starEach [e] Z.X.env = (false, eval e Z.X.env) :: starEach [] Z.X.env := by rfl) : ME Z (.Call (.Attribute o "append" apos) [e] [] cpos) (mMutP i mp fAppend m) false true :=
  me_mutP PySem.F.slot_list_append PySem.F.type_list_append mut_append ho ha hbase hfew hline hs rfl
/-! ### the defs of a class, by their bodies -/
section
variable {P : Program} {w : World} {K : PySem.W.Frag} {mg : Str → Option Value} {base : Heap} {CA : Nat → Addr} {x y qual : Str} {st : Stmt} {f : Addr} {fd : FuncData} {N ps : List Str} {c k n : Nat} {io : List Bool} {body : Sm Fl} {nN : Nat}
theorem fnm_body (F : Fun K x qual st f fd) (cl : Cls K (CA c)) (me : Meth K (CA c) x f) (hb : Binds K fd ps []) (S : FnScope N ps (defScope st)) (hn : N.length = nN) (hio : io.length = ps.length) (hps : ps.length = n)
    (hbody : ∀ (cdv : Value) (A : Around) (outer : List Env) (s : Shared) (H : Hp) (E : XK), Room k (A.deeper (PyProof.Rows.envOfC qual (defScope st) s.heap.objs.size f cdv)) →
      MSs (Zf P w K mg base CA N qual (defScope st) f cdv A outer s H E io) (defBody st) body) : FnM P w K mg base CA c x n (k + 1) (fnSem nN io body) := by
  subst hps
  exact ⟨f, fd, ps, fn_body F S hn hio hbody, cl, me, hb⟩
theorem fnc_body (F : Fun K x qual st f fd) (g : mg y = some (.ref (CA c))) (mk : Mk K (CA c) f) (hb : Binds K fd ps []) (S : FnScope N ps (defScope st)) (hn : N.length = nN) (hio : io.length = ps.length) (hps : ps.length = n)
    (hbody : ∀ (cdv : Value) (A : Around) (outer : List Env) (s : Shared) (H : Hp) (E : XK), Room k (A.deeper (PyProof.Rows.envOfC qual (defScope st) s.heap.objs.size f cdv)) →
      MSs (Zf P w K mg base CA N qual (defScope st) f cdv A outer s H E io) (defBody st) body) : FnC P w K mg base CA c y n (k + 1) (fnSem nN io body) := by
  subst hps
  exact ⟨f, fd, ps, fn_body F S hn hio hbody, mk, hb, g⟩
end
/-! ### what the top has made of a class -/
def DM (K : PySem.W.Frag) (C : Addr) (x qual : Str) (ps : List Str) (st : Stmt) : Prop := ∃ (f : Addr) (fd : FuncData), Meth K C x f ∧ Fun K x qual st f fd ∧ ∀ (s : Shared) (us : List Value), us.length = ps.length → BindsTo s fd ⟨us, []⟩ (ps.zip us)
theorem DM.mk {K : PySem.W.Frag} {C : Addr} {x qual : Str} {ps : List Str} {st : Stmt} {f : Addr} {oc : Value} {od an : Option Addr} {osl : Array (Option Value)} {kV doc pm cdv ct : Value}
    (h : ∀ (kV doc pm : Value) (an : Option Addr) (cdv ct : Value) (us : List Value), us.length = ps.length → bindArgs (PySem.W.fnOf x qual (defArgs st) (defBody st) (defScope st) .none kV doc pm an cdv ct) ⟨us, []⟩ = pure (ps.zip us))
    (a : PySem.W.findIn K (.ref C) x = some (some (.ref f))) (i : PySem.W.isFn K (.ref f) = true) (l : K.lookup f = some ⟨oc, od, .func (PySem.W.fnOf x qual (defArgs st) (defBody st) (defScope st) .none kV doc pm an cdv ct), osl⟩) (c : PySem.W.codeIn K cdv qual = true) (k : PySem.W.keepIn K (.ref f) = true) : DM K C x qual ps st :=
  ⟨f, _, ⟨a, i, k⟩, fun_mk l c k, fun s us hl => .of_eq (h kV doc pm an cdv ct us hl)⟩
/-- the class itself -/
structure OC (K : PySem.W.Frag) (C : Addr) (x : Str) : Prop where
  ns : PySem.W.nsIn K mainGlobals x = some (some (.ref C))
  cl : Cls K C
  ms : PySem.W.makesIn K C = true
  kp : PySem.W.keepIn K (.ref C) = true
theorem OC.mks {K : PySem.W.Frag} {C f : Addr} {x : Str} (o : OC K C x) (m : Meth K C "__init__" f) : Mk K C f := ⟨o.ms, m.at_, m.fn, o.kp⟩
/-- own classes behind the errors -/
def withC (n : Nat) (A B : Nat → Addr) : Nat → Addr := fun c => if c < n then A c else B (c - n)
theorem CF.ext {K : PySem.W.Frag} {names : List Str} {A A' : Nat → Addr} (e : ∀ c, c < names.length → A' c = A c) (h : CF K names A) : CF K names A' :=
  ⟨fun c x hc => by
    have hl := (List.getElem?_eq_some_iff.mp hc).1
    rw [e c hl]
    exact h.one c x hc, fun c d hc hd => by
    rw [e c hc, e d hd]
    exact h.sub c d hc hd⟩
theorem CF.withC {K : PySem.W.Frag} {names : List Str} {A B : Nat → Addr} {n : Nat} (hn : names.length = n) (h : CF K names A) : CF K names (withC n A B) := h.ext fun c hc => by
  unfold Ev.withC
  rw [if_pos (by omega)]
theorem withC_at (n j : Nat) (A B : Nat → Addr) : withC n A B (n + j) = B j := by
  unfold withC
  rw [if_neg (by omega), Nat.add_sub_cancel_left]
end Ev

namespace Ev
open PySem PySem.Spec L2

/-! ### a slot more, for a while -/
theorem Sl.snoc {D : Dn} {G H : Hp} {w : W} {x : Option V} {O : List Addr} (r : SR D G H w x O) : ∀ {env : List W} {σ : L2.St} {Os : List (List Addr)}, Sl D G H env σ Os → Sl D G H (env ++ [w]) (σ ++ [x]) (Os ++ [O])
  | [], _, _, h => by
    obtain ⟨rfl, rfl⟩ := h
    exact ⟨x, [], O, [], rfl, rfl, r, rfl, rfl⟩
  | _ :: env, _, _, h => by
    obtain ⟨y, σ, P, Os, rfl, rfl, h1, h2⟩ := h
    exact ⟨y, _, P, _, rfl, rfl, h1, Sl.snoc r h2⟩
theorem Sl.init {D : Dn} {G H : Hp} {x : Option V} : ∀ {σ : L2.St} {env : List W} {Os : List (List Addr)}, Sl D G H env (σ ++ [x]) Os → Sl D G H env.dropLast σ Os.dropLast
  | [], [], _, h => nomatch h.1
  | [], w :: env, _, h => by
    obtain ⟨y, σ, P, Os, e, rfl, h1, h2⟩ := h
    cases e
    cases env with
    | nil =>
      obtain ⟨_, rfl⟩ := h2
      exact ⟨rfl, rfl⟩
    | cons w2 env =>
      obtain ⟨_, _, _, _, e, _⟩ := h2
      cases e
  | y :: σ, [], _, h => nomatch h.1
  | y :: σ, w :: env, _, h => by
    obtain ⟨y', σ', P, Os, e, rfl, h1, h2⟩ := h
    cases e
    have ih := Sl.init h2
    cases env with
    | nil =>
      have : (σ ++ [x]) = [] := h2.1
      simp at this
    | cons w2 env =>
      cases Os with
      | nil =>
        obtain ⟨_, _, _, _, _, e, _⟩ := h2
        cases e
      | cons P2 Os => exact ⟨y, σ, P, _, rfl, rfl, h1, ih⟩
theorem flat_init {Os : List (List Addr)} : ∀ a ∈ Os.dropLast.flatten, a ∈ Os.flatten := fun a ha => by
  obtain ⟨l, hl, hal⟩ := List.mem_flatten.mp ha
  exact List.mem_flatten.mpr ⟨l, List.dropLast_subset _ hl, hal⟩
theorem flat_initS : ∀ {Os : List (List Addr)}, Os.dropLast.flatten.Sublist Os.flatten
  | [] => List.Sublist.refl _
  | [O] => by simp
  | O :: P :: Os => by
    rw [List.dropLast_cons₂, List.flatten_cons, List.flatten_cons]
    exact List.Sublist.append (List.Sublist.refl _) flat_initS
theorem StOk.snoc {D : Dn} {G H : Hp} {env : List W} {σ : L2.St} {Os : List (List Addr)} {w : W} {v : V} {O : List Addr} (s : StOk D G H env σ Os) (r : RO D G H w v O) (o : OwnK true Os O G) : StOk D G H (env ++ [w]) (σ ++ [some v]) (Os ++ [O]) :=
  ⟨s.sl.snoc (.inl ⟨v, rfl, r⟩), s.sub, fun a ha => by
    rw [List.flatten_append, List.flatten_singleton] at ha
    rcases List.mem_append.mp ha with z | z
    · exact s.gn a z
    · exact o.2 a z, by rw [List.flatten_append, List.flatten_singleton]; exact o.1⟩
theorem StOk.init {D : Dn} {G H : Hp} {env : List W} {σ : L2.St} {Os : List (List Addr)} {x : Option V} (s : StOk D G H env (σ ++ [x]) Os) : StOk D G H env.dropLast σ Os.dropLast :=
  ⟨s.sl.init, s.sub, fun a ha => s.gn a (flat_init a ha), s.nd.sublist flat_initS⟩
/-! ### f(slot, new, values): what is new is lent to the call -/
def mCallT (g : Fn) (n i : Nat) (mt : Sm W) (mv : Sm (List W)) : Sm W := fun env => match env[i]? with
  | some w0 => if lvW w0 = true then (match mt env with
    | .ok w2 env1 => (match mv env1 with
      | .ok ws _ => (match mCall g n (Sm.ret (.io i :: .io env1.length :: ws.map .v)) (env1 ++ [w2]) with
        | .ok w e2 => .ok w e2.dropLast
        | .ex c e2 => .ex c e2.dropLast
        | .bad => .bad)
      | _ => .bad)
    | _ => .bad) else .bad
  | none => .bad
theorem r_callT {env : List W} (g : Fn) (n i : Nat) (mt : Sm W) (mv : Sm (List W)) : mCallT g n i mt mv env = match env[i]? with
  | some w0 => if lvW w0 = true then (match mt env with
    | .ok w2 env1 => (match mv env1 with
      | .ok ws _ => (match mCall g n (Sm.ret (.io i :: .io env1.length :: ws.map .v)) (env1 ++ [w2]) with
        | .ok w e2 => .ok w e2.dropLast
        | .ex c e2 => .ex c e2.dropLast
        | .bad => .bad)
      | _ => .bad)
    | _ => .bad) else .bad
  | none => .bad := rfl
theorem avs_of {D : Dn} {G : Hp} {σ : L2.St} : ∀ {ws : List W} {vs : List V}, RFs D G ws vs → AVs D G σ (ws.map .v) vs
  | [], _, h => h
  | _ :: _, _, h => by
    obtain ⟨x, r, rfl, h1, h2⟩ := h
    exact ⟨x, r, rfl, h1, avs_of h2⟩
theorem me_callT {Z : Zt} {x : Str} {n k i : Nat} {g : Fn} {e1 e2 : Expr} {es : List Expr} {p1 p2 : Pos} {mt : Sm W} {mv : Sm (List W)} (F : FnZ Z x n k g) (hr : Room k Z.X.A) (tk : Takes Z.X Z.W) (ho : PE Z.X e1 (tVar i)) (ht : ME Z e2 mt true true) (hv : MA Z es mv true) (hg : Gl Z.X x) (hdb : (x == ("__debug__" : Str)) = false := by decide)
    (s1 : starEach (e1 :: e2 :: es) Z.X.env = (false, eval e1 Z.X.env) :: starEach (e2 :: es) Z.X.env := by rfl) (s2 : starEach (e2 :: es) Z.X.env = (false, eval e2 Z.X.env) :: starEach es Z.X.env := by rfl) (hpl : (backTo p2 (starEach (e2 :: es) Z.X.env)).any (·.1) = false := by rfl)
    : ME Z (.Call (.Name x p1) (e1 :: e2 :: es) [] p2) (mCallT g n i mt mv) false true := by
  obtain ⟨f, fd, ps, F, hm, hk, hb⟩ := F
  refine pe_imp (pe_callS F hr hg hm hk hb (fun σ => passAt tk σ) (pa_cons ho (pa_cons ht hv s2) s1) hdb s1 hpl) fun σ H Q q => ?_
  obtain ⟨env, G, Os, s, q⟩ := q
  unfold mCallT at q
  cases e0 : env[i]? with
  | none => simp only [e0] at q
  | some w0 =>
    simp only [e0] at q
    by_cases hw0 : lvW w0 = true
    · simp only [if_pos hw0] at q
      have hv0 : ∃ v0, σ[i]? = some (some v0) := by
        obtain ⟨sv, O, h1, _, h3⟩ := s.sl.at e0
        rcases h3 with ⟨y, rfl, _⟩ | ⟨z, _⟩
        · exact ⟨y, h1⟩
        · exact absurd z (lvW_ne hw0)
      obtain ⟨v0, hv0⟩ := hv0
      refine ⟨v0, hv0, env, G, Os, s, ?_⟩
      cases e1 : mt env with
      | bad => simp only [e1] at q
      | ex c env1 => simp only [e1] at q
      | ok w2 env1 =>
        simp only [e1] at q
        intro v2 G1 H1 Os1 O2 s1 r2 o2 t1
        obtain ⟨rfl, rfl, t1'⟩ := id t1
        refine ⟨env1, G1, Os1, s1, ?_⟩
        cases e2 : mv env1 with
        | bad => simp only [e2] at q
        | ex c env2 => simp only [e2] at q
        | ok ws env2 =>
          simp only [e2] at q
          intro vs3 G2 H2 Os2 s2 r3 t2
          obtain ⟨rfl, rfl, t2'⟩ := id t2
          have r2' : RO Z.D G2 H2 w2 v2 O2 := stay s1 r2 o2 t2 rfl
          have gn2 : ∀ a ∈ O2, G2 a = none := fun a ha => by
            obtain ⟨o, ho, nt⟩ := RO.thn w2 v2 O2 r2 a ha
            exact t2'.gnew a o ho (fun z => nomatch z) nt (o2.2 a ha)
          have s3 := s2.snoc r2' ⟨o2.1, gn2⟩
          have hl1 : σ.length = env2.length := s2.sl.len.1.symm
          have hiv : i < σ.length := (List.getElem?_eq_some_iff.mp hv0).1
          have t12 : Step G H Os2.flatten G2 H2 (Os2 ++ [O2]).flatten := by
            have a1 : Step G H Os2.flatten G1 H1 (Os2.flatten ++ O2) := t1'.pure0 (O := Os2.flatten)
            have a2 : Step G1 H1 (Os2.flatten ++ O2) G2 H2 (Os2.flatten ++ O2) := (t2'.pure0 (O := Os2.flatten ++ O2)).less fun x hx => List.mem_append_left _ hx
            rw [List.flatten_append, List.flatten_singleton]
            exact a1.trans a2
          have av : AVs Z.D G2 (σ ++ [some v2]) (.io i :: .io env2.length :: ws.map .v) (v0 :: v2 :: vs3) :=
            ⟨v0, _, rfl, by rw [List.getElem?_append_left hiv]; exact hv0, v2, _, rfl, by rw [← hl1, List.getElem?_append_right (Nat.le_refl _), Nat.sub_self]; rfl, avs_of r3⟩
          unfold mCall Sm.bind Sm.ret at q
          dsimp only at q
          by_cases hl : (AV.io i :: AV.io env2.length :: ws.map AV.v).length = n
          · simp only [if_pos hl] at q
            refine call_core s3 av hl ?_
            cases e3 : takeA (env2 ++ [w2]) (.io i :: .io env2.length :: ws.map .v) with
            | none => simp only [e3] at q
            | some qq =>
              obtain ⟨ys, env0⟩ := qq
              simp only [e3] at q ⊢
              cases e4 : g ys with
              | bad => simp only [e4] at q
              | ex c ws' =>
                simp only [e4] at q ⊢
                intro G' H' Os' s' t
                refine q G' H' _ s'.init ?_
                show Step G H _ G' H' (_ ++ [])
                rw [List.append_nil]
                exact (t12.trans t).less flat_init
              | ok w ws' =>
                simp only [e4] at q ⊢
                intro v G' H' Os' Ow s' r o t
                refine q v G' H' _ Ow s'.init r ⟨o.1.sublist (List.Sublist.append flat_initS (List.Sublist.refl _)), o.2⟩ ?_
                refine (t12.trans t).less fun a ha => ?_
                rcases List.mem_append.mp ha with z | z
                · exact List.mem_append_left _ (flat_init a z)
                · exact List.mem_append_right _ z
          · simp only [if_neg hl] at q
    · simp only [if_neg hw0] at q
end Ev

namespace Ev
open PySem PySem.Spec L2

/-! ### a test while an owned thing is lent -/
def tLendE (i : Nat) (m : Sm Bool) : Sm Bool := fun env => match env[i]? with
  | some w0 => if w0.fzOk = true then (match m (env.set i w0.fzD) with
    | .ok b _ => .ok b env
    | _ => .bad) else .bad
  | none => .bad
theorem r_tlendE {env : List W} (i : Nat) (m : Sm Bool) : tLendE i m env = match env[i]? with
  | some w0 => if w0.fzOk = true then (match m (env.set i w0.fzD) with
    | .ok b _ => .ok b env
    | _ => .bad) else .bad
  | none => .bad := rfl
theorem tt_lendE {D : Dn} {Wx : WX} {i : Nat} {m : Sm Bool} {σ : L2.St} {H : Hp} {Q : Bool → Hp → Prop} (q : TT' D Wx true (tLendE i m) σ H Q) : TT' D Wx true m σ H Q := by
  obtain ⟨env, G, Os, s, q⟩ := q
  unfold tLendE at q
  cases e0 : env[i]? with
  | none => simp only [e0] at q
  | some w0 =>
    simp only [e0] at q
    by_cases hf : w0.fzOk = true
    · simp only [if_pos hf] at q
      obtain ⟨sv, O, h1, h2, h3⟩ := s.sl.at e0
      have hd : ∃ v, sv = some v ∧ RO D G H w0 v O := by
        rcases h3 with h3 | ⟨rfl, _⟩
        · exact h3
        · cases hf
      obtain ⟨v, rfl, ro⟩ := hd
      have inO : ∀ a ∈ O, a ∈ Os.flatten := fun a ha => flat_mem h2 ha
      have out : ∀ a ∈ (Os.set i []).flatten, a ∉ O := fun a ha z => onceO s.nd h2 z ha
      have g1 : ∀ a ∈ O, lentH G H O a = H a := fun a ha => lent_own ha (s.gn a (inO a ha))
      have mono : Sub G (lentH G H O) := lent_mono
      have s1 : StOk D (lentH G H O) H (env.set i w0.fzD) σ (Os.set i []) := by
        refine ⟨?_, sub_lentS s.sub, fun a ha => lent_none (out a ha) (s.gn a (flat_sub a ha)), flat_nd s.nd⟩
        have s0 : Sl D (lentH G H O) H (env.set i .dead) σ (Os.set i []) := (s.sl.kill1 i).mono mono fun _ _ _ h => h
        have z := Sl.set (D := D) (G := lentH G H O) (H := H) (w := w0.fzD) (s := some v) (O := []) (.inl ⟨v, rfl, RO.ofF (RO.deep (S := O) w0 v O hf ro fun a ha => ⟨ha, s.gn a (inO a ha)⟩)⟩) i s0
        rw [set_self h1, List.set_set, List.set_set] at z
        exact z
      refine ⟨_, _, _, s1, ?_⟩
      cases e1 : m (env.set i w0.fzD) with
      | bad => simp only [e1] at q
      | ex c env' => simp only [e1] at q
      | ok b env' =>
        simp only [e1] at q
        intro G' H' Os' s' t
        obtain ⟨rfl, rfl, t⟩ := t
        let G2 : Hp := fun a => if a ∈ O then none else G' a
        have g2 : ∀ a, a ∉ O → G2 a = G' a := fun a h => if_neg h
        have g0 : ∀ a, a ∈ O → G2 a = none := fun a h => if_pos h
        have sub2 : Sub G2 H' := fun a x hx => by
          by_cases c : a ∈ O
          · rw [g0 a c] at hx; cases hx
          · rw [g2 a c] at hx; exact s'.sub a x hx
        have st : Step G H [] G2 H' [] := by
          refine ⟨fun a x hx => ?_, t.keep, fun a x hx hn nt hg => ?_, t.new⟩
          · have na : a ∉ O := fun z => by rw [s.gn a (inO a z)] at hx; cases hx
            rw [g2 a na]; exact t.mono a x (mono a x hx)
          · by_cases c : a ∈ O
            · exact g0 a c
            · rw [g2 a c]; exact t.gnew a x hx hn nt (lent_none c hg)
        have s2 : StOk D G2 H' env σ Os := s.step st sub2
        exact q G2 H' Os s2 ⟨rfl, rfl, st⟩
    · simp only [if_neg hf] at q
theorem mt_lendE {Z : Zt} {e : Expr} (i : Nat) {m : Sm Bool} (h : MT Z e m true) : MT Z e (tLendE i m) true := pt_imp h fun _ _ _ q => tt_lendE q

/-! ### for one in found: one.clear() -/
def clL (i io : Nat) : Nat → Nat → List W → Option (List W)
  | 0, _, env => some env
  | n + 1, j, env => match env[i]? with
    | some (.nst ws) => match ws[j]? with
      | some (.lst true _) => clL i io n (j + 1) (killE [io] ((env.set io .dead).set i (.nst (ws.set j (.lst true [])))))
      | _ => none
    | _ => none
def sClearAll (i io : Nat) : Sm Fl := fun env => match env[i]? with
  | some (.nst ws) => if io < env.length then match clL i io ws.length 0 (killE [io] env) with
    | some env' => .ok .nx env'
    | none => .bad else .bad
  | _ => .bad
theorem ms_clearAll {Z : Zt} {y f : Str} {i io : Nat} {qy q4 pf pos pos3 apos cpos : Pos} (hp : PassesOwn (model Z.X.prog Z.X.w) Z.X.A Z.X.env Z.X.xe) (hc : Z.X.calm = true) (hN : Z.X.N.Nodup)
    (ho : PE Z.X (.Name f pf) (tVar i)) (hy : PE Z.X (.Name y q4) (tVar io)) (hib : i ≠ io := by decide) (hiob : Z.io io = false := by rfl)
    (h2 : Z.X.N[io]? = some y := by rfl) (hyl : Loc Z.X.env.scope y := by first | exact Or.inl rfl | exact Or.inr rfl)
    (hf2 : Z.X.fn y = true ∨ Z.X.env.scope.names.lookup y = some .local := by first | exact .inl rfl | exact .inr rfl | assumption)
    (hbase : attributeBase (.Name y q4) "clear" Z.X.env (eval (.Name y q4) Z.X.env) = eval (.Name y q4) Z.X.env := by rfl)
    (hline : (apos.endLine == cpos.line) = true := by rfl)
    (hfs : ∀ v, foldedSetIterable (.Name f pf) Z.X.env v = pure v := by intro _; rfl) :
    MS Z (.For (.Name y qy) (.Name f pf) [.Expr (.Call (.Attribute (.Name y q4) "clear" apos) [] [] cpos) pos3] [] pos) (sClearAll i io) :=
  ps_imp (ps_for hp hc (pi_list ho) (pg_name hN h2 hyl hf2)
    (pss_one (ps_expr (pe_bm0 PySem.F.plainAttrs_list PySem.F.slot_list_clear PySem.F.type_list_clear mt_clear hy hbase hline))) hfs) fun E σ H q => by
  obtain ⟨env, G, Os, s, q⟩ := q
  unfold sClearAll at q
  cases e0 : env[i]? with
  | none => rw [e0] at q; exact q.elim
  | some w0 =>
    have key : ∃ xs0, w0 = .nst xs0 := by
      rw [e0] at q
      cases w0 <;> first
        | exact q.elim
        | exact ⟨_, rfl⟩
    obtain ⟨ws0, rfl⟩ := key
    rw [e0] at q
    by_cases hlen : io < env.length
    · simp only [if_pos hlen] at q
      obtain ⟨a, vs0, O0, g1, g2, g3, g4⟩ := s.sl.atNst e0
      have q0 : PostS Z.D Z.W Z.io E σ G H Os (oFl (clL i io ws0.length 0 (killE [io] env))) := by
        cases eo : clL i io ws0.length 0 (killE [io] env) with
        | none => rw [eo] at q; exact q.elim
        | some env' => rw [eo] at q; exact q
      refine ⟨.ref a, g1, a, rfl, ⟨vs0, SqL.of g3⟩, ?_⟩
      refine ⟨fun j m σ' H' => m = ws0.length - j ∧ j ≤ ws0.length ∧ ∃ env' G' Os' vs', StOk Z.D G' H' env' σ' Os' ∧ σ'[i]? = some (some (.ref a)) ∧ H' a = some (.lst vs') ∧ vs'.length = ws0.length ∧ io < env'.length ∧ Step G H Os.flatten G' H' Os'.flatten ∧ IoS Z.io σ σ' ∧ PostS Z.D Z.W Z.io E σ' G' H' Os' (oFl (clL i io (ws0.length - j) j env')),
        ⟨ws0.length, rfl, Nat.zero_le _, killE [io] env, G, killO [io] Os, vs0, s.kill [io], g1, g3, g4.len.symm, ?_, ?_, IoS.refl _, ?_⟩, ?_⟩
      · have lk : (killE [io] env).length = env.length := by rw [(s.kill [io]).sl.len.1, s.sl.len.1]
        rw [lk]; exact hlen
      · exact (Step.refl G H Os.flatten).less fun b hb => killO_sub b hb
      · exact PostS.on ((Step.refl G H Os.flatten).less fun b hb => killO_sub b hb) (IoS.refl _) q0
      rintro j m σ2 H2 ⟨rfl, hj, env2, G2, Os2, vs2, s2, k1, k3, kl, klen, kst, kio, q2⟩
      by_cases hl : j < ws0.length
      · have hv : vs2[j]? = some vs2[j] := List.getElem?_eq_getElem (by omega)
        refine .inr ⟨⟨vs2, vs2[j], SqL.of k3, hv⟩, fun σ3 H3 => ∃ env' G' Os' vs', StOk Z.D G' H3 env' σ3 Os' ∧ σ3[i]? = some (some (.ref a)) ∧ H3 a = some (.lst vs') ∧ vs'.length = ws0.length ∧ io < env'.length ∧ Step G H Os.flatten G' H3 Os'.flatten ∧ IoS Z.io σ σ3 ∧ PostS Z.D Z.W Z.io E σ3 G' H3 Os' (oFl (clL i io (ws0.length - (j + 1)) (j + 1) env')),
          fun σ3 H3 h => ⟨ws0.length - (j + 1), by omega, rfl, hl, h⟩, fun v H3 yl => ?_⟩
        obtain ⟨rfl, yx⟩ := yl
        have ex : v = vs2[j] := Option.some.inj ((yx vs2 (SqL.of k3)).symm.trans hv)
        subst ex
        have s4 : StOk Z.D G2 H3 (env2.set io .dead) (σ2.set io (some vs2[j])) (Os2.set io []) :=
          ⟨Sl.set (.inr ⟨rfl, rfl⟩) io s2.sl, s2.sub, fun b hb => s2.gn b (flat_sub b hb), flat_nd s2.nd⟩
        have sub4 : ∀ b ∈ (Os2.set io []).flatten, b ∈ Os2.flatten := fun b hb => flat_sub b hb
        obtain ⟨n', hn'⟩ : ∃ n', ws0.length - j = n' + 1 := ⟨ws0.length - j - 1, by omega⟩
        have hn2 : ws0.length - (j + 1) = n' := by omega
        rw [hn', clL] at q2
        cases e4 : env2[i]? with
        | none => simp only [e4] at q2; exact q2.elim
        | some wi =>
          have key4 : ∃ ws, wi = .nst ws := by
            cases wi <;> first
              | (exfalso; simp only [e4] at q2; exact q2.elim)
              | exact ⟨_, rfl⟩
          obtain ⟨ws, rfl⟩ := key4
          simp only [e4] at q2
          cases ew : ws[j]? with
          | none => simp only [ew] at q2; exact q2.elim
          | some wj =>
            have key5 : ∃ xs, wj = .lst true xs := by
              cases wj <;> first
                | (exfalso; simp only [ew] at q2; exact q2.elim)
                | (rename_i b _; cases b <;> first | (exfalso; simp only [ew] at q2; exact q2.elim) | exact ⟨_, rfl⟩)
            obtain ⟨xs, rfl⟩ := key5
            simp only [ew] at q2
            have e4' : (env2.set io .dead)[i]? = some (.nst ws) := by rw [List.getElem?_set_ne (Ne.symm hib)]; exact e4
            obtain ⟨a', vs4, O4, c1, c2, c3, c4⟩ := s4.sl.atNst e4'
            have ca : a' = a := by
              rw [List.getElem?_set_ne (Ne.symm hib), k1] at c1
              cases c1
              rfl
            subst ca
            have ev : vs4 = vs2 := by
              rw [k3] at c3
              cases c3
              rfl
            subst ev
            have nd4 : O4.Nodup := (List.nodup_cons.mp (nd_at s4.nd c2)).2
            obtain ⟨b, us, d1, d2, d3, d4, d5⟩ := c4.child nd4 ew
            rw [hv] at d1
            have eb : vs4[j] = .ref b := Option.some.inj d1
            have lio : io < σ2.length := by rw [← s2.sl.len.1]; exact klen
            refine ⟨vs4[j], List.getElem?_set_self lio, ?_⟩
            rw [eb]
            rw [eb] at s4 c1
            refine ⟨.inl ⟨rfl, _, SqL.of d3⟩, b, us, rfl, rfl, d3, ?_⟩
            have na : b ≠ a' := fun e => (List.nodup_cons.mp (nd_at s4.nd c2)).1 (by rw [← e]; exact d2)
            have ro : RO Z.D G2 (upd H3 b (.lst [])) (.nst (ws.set j (.lst true []))) (.ref a') ((a' :: O4) ++ []) := by
              rw [List.append_nil]
              refine ⟨a', vs4, O4, rfl, rfl, ?_, d5 _ _ rfl⟩
              rw [upd_ne (Ne.symm na)]
              exact c3
            obtain ⟨Os6, s6, t6⟩ := s4.updO c2 c1 (List.mem_cons_of_mem _ d2) ro (by rw [List.append_nil]; exact s4.nd) (fun _ z => nomatch z)
            rw [List.append_nil] at t6
            have T1 : Step G2 H3 Os2.flatten G2 H3 (Os2.set io []).flatten := (Step.refl _ _ _).less fun x hx => sub4 x hx
            have T3 : Step G2 H3 Os2.flatten G2 (upd H3 b (.lst [])) (killO [io] Os6).flatten := (T1.trans t6).less fun x hx => killO_sub x hx
            have I3 : IoS Z.io σ2 (σ2.set io (some (.ref b))) := IoS.set hiob
            refine ⟨_, G2, _, vs4, s6.kill [io], c1, ?_, kl, ?_, kst.trans T3, kio.trans I3, ?_⟩
            · rw [upd_ne (Ne.symm na)]
              exact c3
            · rw [(s6.kill [io]).sl.len.1, List.length_set, ← s2.sl.len.1]
              exact klen
            · rw [hn2]
              exact PostS.on T3 I3 q2
      · have e2 : j = ws0.length := by omega
        subst e2
        rw [Nat.sub_self, clL] at q2
        exact .inl ⟨⟨vs2, SqL.of k3, by omega⟩, q2 σ2 G2 H2 Os2 s2 (Step.refl _ _ _) (IoS.refl _)⟩
    · simp only [if_neg hlen] at q; exact q.elim
end Ev

namespace Ev
open PySem PySem.Spec L2

/-! ### a display {"a": x, ..} -/
def seqF : List (Sm W) → List W → Option (List W)
  | [], _ => some []
  | m :: ms, env => match m env with
    | .ok w _ => if w.frz = true then (seqF ms env).map (w :: ·) else none
    | _ => none
def mDisp (ks : List Str) (ms : List (Sm W)) : Sm W := fun env => match seqF ms env with
  | some ws => if ks.Nodup ∧ ks.length = ws.length then .ok (.dct true (.k (ks.map Sum.inr)) ws) env else .bad
  | none => .bad
def PreD (D : Dn) (ks : List Str) (ms : List (Sm W)) (σ : L2.St) (H : Hp) (Q : List (V × V) → Hp → Prop) : Prop := ∃ (env : List W) (G : Hp) (Os : List (List Addr)), StOk D G H env σ Os ∧ match seqF ms env with
  | some ws => ∀ vs G' H', StOk D G' H' env σ Os → RFs D G' ws vs → Step G H [] G' H' [] → Q ((ks.zip vs).map fun p => (V.str p.1, p.2)) H'
  | none => False
structure MDs (Z : Zt) (pos : Pos) (keys : List (Option Expr)) (values : List Expr) (ks : List Str) (ms : List (Sm W)) : Prop where
  ex : ∃ trs, PPs Z.X pos keys values trs ∧ ∀ σ H Q, PreD Z.D ks ms σ H Q → tPairs trs σ H Q
  all : keys.all (·.isSome) = true
  l1 : keys.length = values.length
  l2 : ks.length = keys.length
  l3 : ms.length = keys.length
theorem mds_nil {Z : Zt} {pos : Pos} : MDs Z pos [] [] [] [] := ⟨⟨[], pps_nil, fun σ H Q q => by
  obtain ⟨env, G, Os, s, q⟩ := q
  exact q [] G H s rfl (Step.refl _ _ _)⟩, rfl, rfl, rfl, rfl⟩
theorem mds_cons {Z : Zt} {pos : Pos} {k v : Expr} {s : Str} {m : Sm W} {kk : Bool} {keys : List (Option Expr)} {values : List Expr} {ks : List Str} {ms : List (Sm W)} (hk : ME Z k (mC (.str s)) true true) (hv : ME Z v m true kk) (r : MDs Z pos keys values ks ms) : MDs Z pos (some k :: keys) (v :: values) (s :: ks) (m :: ms) := by
  obtain ⟨⟨trs, hp, hs⟩, h1, h2, h3, h4⟩ := r
  refine ⟨⟨_, pps_cons hk hv hp, fun σ H Q q => ?_⟩, by rw [List.all_cons, h1]; rfl, by rw [List.length_cons, List.length_cons, h2], by rw [List.length_cons, List.length_cons, h3], by rw [List.length_cons, List.length_cons, h4]⟩
  obtain ⟨env, G, Os, st, q⟩ := q
  unfold seqF at q
  refine ⟨env, G, Os, st, ?_⟩
  show ∀ v G' H' Os' Ow, StOk Z.D G' H' env σ Os' → RO Z.D G' H' (.str s) v Ow → OwnK true Os' Ow G' → Stp true env G H Os env G' H' Os' (kO true Ow) → _
  intro x G1 H1 Os1 O1 s1 r1 o1 t1
  obtain ⟨rfl, rfl⟩ := r1
  obtain ⟨_, rfl, t1⟩ := t1
  refine ⟨env, G1, Os1, s1, ?_⟩
  cases e1 : m env with
  | bad => rw [e1] at q; exact q.elim
  | ex c env1 => rw [e1] at q; exact q.elim
  | ok w env1 =>
    simp only [e1] at q
    intro y G2 H2 Os2 O2 s2 r2 o2 t2
    obtain ⟨rfl, rfl, t2⟩ := t2
    by_cases hw : w.frz = true
    · simp only [if_pos hw] at q
      obtain ⟨rfl, rf⟩ := r2.toF hw
      have t2' : Step G1 H1 [] G2 H2 [] := t2.less fun _ z => nomatch z
      refine hs σ H2 _ ⟨env1, G2, Os2, s2, ?_⟩
      cases e2 : seqF ms env1 with
      | none => simp only [e2, Option.map_none] at q
      | some ws =>
        simp only [e2, Option.map_some] at q
        intro vs G3 H3 s3 r3 t3
        exact q (y :: vs) G3 H3 s3 ⟨y, vs, rfl, RF.mono t3.mono _ _ rf, r3⟩ (((t1.less (O2 := []) (fun _ z => nomatch z)).trans t2').trans t3)
    · simp only [if_neg hw] at q
theorem mergeK_nd : ∀ (more acc : List (Key × V)), ((acc ++ more).map fun p => p.1).Nodup → mergeK acc more = acc ++ more
  | [], acc, _ => by rw [List.append_nil]; rfl
  | p :: more, acc, h => by
    have hp : (acc.any fun kv => decide (kv.1 = p.1)) = false := by
      rw [List.any_eq_false]
      intro kv hkv
      rw [decide_eq_true_eq]
      intro e
      rw [List.map_append, List.map_cons] at h
      exact (List.nodup_append.mp h).2.2 kv.1 (List.mem_map.mpr ⟨kv, hkv, rfl⟩) p.1 List.mem_cons_self e
    have e1 : putK acc p.1 p.2 = acc ++ [p] := by
      unfold putK
      rw [hp]
      rfl
    show mergeK (putK acc p.1 p.2) more = _
    rw [e1, mergeK_nd more (acc ++ [p]) (by rw [List.append_assoc]; exact h), List.append_assoc]
    rfl
theorem zip_keys : ∀ (ks : List Str) (vs : List V), ks.length = vs.length → ((ks.map (Sum.inr : Str → Key)).zip vs).map (fun p => p.1) = ks.map Sum.inr
  | [], vs, _ => rfl
  | k :: ks, [], h => nomatch h
  | k :: ks, v :: vs, h => by
    rw [List.map_cons, List.zip_cons_cons, List.map_cons, zip_keys ks vs (Nat.succ.inj h)]
theorem zip_kvs : ∀ (ks : List Str) (vs : List V), (ks.zip vs).map (fun p => (V.str p.1, p.2)) = ((ks.map (Sum.inr : Str → Key)).zip vs).map fun kv => (kV kv.1, kv.2)
  | [], vs => rfl
  | k :: ks, [] => rfl
  | k :: ks, v :: vs => by
    rw [List.zip_cons_cons, List.map_cons, List.map_cons, List.zip_cons_cons, List.map_cons, zip_kvs ks vs]
    rfl
theorem me_disp {Z : Zt} {pos : Pos} {keys : List (Option Expr)} {values : List Expr} {ks : List Str} {ms : List (Sm W)} (h : MDs Z pos keys values ks ms) (h0 : keys ≠ [] := by intro z; cases z) (h15 : keys.length ≤ 15 := by decide) : ME Z (.Dict keys values pos) (mDisp ks ms) true true := by
  obtain ⟨⟨trs, hp, hs⟩, hall, hl, hk, _⟩ := h
  refine pe_imp (pe_disp hp hall hl h0 h15) fun σ H Q q p hn => ?_
  obtain ⟨env, G, Os, s, q⟩ := q
  unfold mDisp at q
  have gp : G p = none := sub_none s.sub hn
  have st0 : Step G H [] G (upd H p (.dK [])) [p] := step_own hn
  have s0 : StOk Z.D G (upd H p (.dK [])) env σ Os := s.step (st0.less (O2 := []) fun _ z => nomatch z) (sub_upd s.sub hn)
  refine hs σ _ _ ⟨env, G, Os, s0, ?_⟩
  cases e : seqF ms env with
  | none => simp only [e] at q
  | some ws =>
    simp only [e] at q
    intro vs G2 H2 s2 r2 t2
    by_cases hc : ks.Nodup ∧ ks.length = ws.length
    · simp only [if_pos hc] at q
      obtain ⟨nd, lw⟩ := hc
      have lv : ks.length = vs.length := lw.trans r2.len
      have hp2 : H2 p = some (.dK []) := t2.keep p _ upd_same (fun z => nomatch z)
      have g2 : G2 p = none := t2.gnew p _ upd_same (fun z => nomatch z) (fun _ z => nomatch z) gp
      refine ⟨hp2, (ks.map Sum.inr).zip vs, zip_kvs ks vs, by rw [List.length_zip, List.length_map]; omega, ?_⟩
      have em : mergeK [] ((ks.map (Sum.inr : Str → Key)).zip vs) = (ks.map Sum.inr).zip vs := by
        rw [mergeK_nd _ [] (by rw [List.nil_append, zip_keys ks vs lv]; exact List.Pairwise.map _ (fun a b hab e => hab (Sum.inr.inj e)) nd), List.nil_append]
      rw [em]
      have st : Step G H [] G2 (upd H2 p (.dK ((ks.map Sum.inr).zip vs))) [p] := by
        refine ⟨t2.mono, fun a o ha _ => ?_, fun a o ha _ nt hg => ?_, fun a ha => .inr (by rw [List.mem_singleton.mp ha]; exact hn)⟩
        · have na : a ≠ p := ne_of_none ha hn
          rw [upd_ne na]
          exact t2.keep a o (by rw [upd_ne na]; exact ha) (fun z => nomatch z)
        · have na : a ≠ p := ne_of_none ha hn
          exact t2.gnew a o (by rw [upd_ne na]; exact ha) (fun z => nomatch z) nt hg
      have sub3 : Sub G2 (upd H2 p (.dK ((ks.map Sum.inr).zip vs))) := fun a x hx => by
        rw [upd_ne (fun z => by rw [z, g2] at hx; cases hx)]
        exact s2.sub a x hx
      have s3 : StOk Z.D G2 (upd H2 p (.dK ((ks.map Sum.inr).zip vs))) env σ Os := s.step (st.less (O2 := []) fun _ z => nomatch z) sub3
      exact q (.ref p) G2 _ Os [p] s3 ⟨p, vs, rfl, rfl, ⟨by rw [List.length_map]; exact lv, upd_same⟩, r2⟩ ⟨s.apart st (by simp), fun a ha => by rw [List.mem_singleton.mp ha]; exact g2⟩ ⟨rfl, rfl, st⟩
    · simp only [if_neg hc] at q
/-! ### list(range(n)) -/
noncomputable def rg1W (o : Bool) (w : W) : Option W := rgW o (.int 0) w
theorem w_rg1W (b : Bool) (j : Int) (h : RgOk 0 j) : rg1W b (.int j) = some (.lst b (rngL 0 j.toNat)) := by
  show rgW b (.int 0) (.int j) = _
  rw [w_rgW b 0 j h, Int.sub_zero]
theorem me_listRg1 {Z : Zt} {a : Expr} {m1 : Sm W} {p1 k1 : Bool} {q1 q2 q3 q4 : Pos} (o : Bool) (hc : Z.X.calm = true) (hm : Z.X.mg "list" = none) (hmr : Z.X.mg "range" = none) (ha : ME Z a m1 p1 k1) (hg : Gl Z.X "list" := by rfl) (hgr : Gl Z.X "range" := by rfl)
    (na : starEach [a] Z.X.env = (false, eval a Z.X.env) :: starEach [] Z.X.env := by rfl)
    (nc : starEach [.Call (.Name "range" q1) [a] [] q2] Z.X.env = (false, eval (.Call (.Name "range" q1) [a] [] q2) Z.X.env) :: starEach [] Z.X.env := by rfl) :
    ME Z (.Call (.Name "list" q3) [.Call (.Name "range" q1) [a] [] q2] [] q4) (mUn (rg1W o) m1) p1 true :=
  pe_imp (pe_listRg hc hg hm (prg_1 hgr hmr ha na) nc) fun σ H Q q =>
    tx_un (r := fun x H Q => ∃ j, x = .int j ∧ (RgOk 0 j ∧ ∀ p, H p = none → Q (.ref p) (upd H p (.lst (rgV 0 j))))) (fun G H w1 v1 O1 w Q s r1 e q => by
      have hi : ∃ j, w1 = .int j := by
        cases w1 <;> first
          | cases e
          | exact ⟨_, rfl⟩
      obtain ⟨j, rfl⟩ := hi
      by_cases h : RgOk 0 j
      · simp only [rg1W, rgW, if_pos h] at e
        cases e
        obtain ⟨_, rfl⟩ := r1
        exact ⟨j, rfl, h, fun p n => q.lst s (rngL_rf 0 _) n⟩
      · simp only [rg1W, rgW, if_neg h] at e; cases e) q
/-! ### x is True, x is not True -/
def isBW (neg : Bool) : W → W → Option W
  | .bl a, .bl b => some (.bl (if neg = true then !decide (a = b) else decide (a = b)))
  | _, _ => none
theorem w_isB (neg a b : Bool) : isBW neg (.bl a) (.bl b) = some (.bl (if neg = true then !decide (a = b) else decide (a = b))) := Eq.trans rfl rfl
theorem isBW_two {neg : Bool} {w1 w2 w : W} (e : isBW neg w1 w2 = some w) : ∃ a b, w1 = .bl a ∧ w2 = .bl b := by
  cases w1 <;> first
    | cases e
    | (cases w2 <;> first | exact ⟨_, _, rfl, rfl⟩ | cases e)
theorem op_isBW {Z : Zt} : OpS Z (compareOp .Is) (isBW false) := fun G H w1 w2 v1 v2 O1 O2 w Q s r1 r2 e q => by
  obtain ⟨a, b, rfl, rfl⟩ := isBW_two e
  obtain ⟨_, rfl⟩ := r1
  obtain ⟨_, rfl⟩ := r2
  cases e
  exact ⟨_, op_isBl, a, b, rfl, rfl, q.bl s⟩
theorem op_isNotBW {Z : Zt} : OpS Z (compareOp .IsNot) (isBW true) := fun G H w1 w2 v1 v2 O1 O2 w Q s r1 r2 e q => by
  obtain ⟨a, b, rfl, rfl⟩ := isBW_two e
  obtain ⟨_, rfl⟩ := r1
  obtain ⟨_, rfl⟩ := r2
  cases e
  exact ⟨_, op_notBl, a, b, rfl, rfl, q.bl s⟩
end Ev

namespace Ev
/-! ### set(xs), xs a list of texts no two of which are alike -/
section
open PySem PySem.Spec PyProof.Rows L2
variable {P : Program} {w : World} {A : Around} {E : Value → Shared → Prop} {s : Shared}
theorem texts_in {J : Addr} {fp wr : List Addr} {G : Array GenState → Array GenState → Prop} {n : Nat} {Pv : Nat → Value → Prop} {St : Nat → Shared → Prop} {R : Result → Shared → Prop}
    (V : WalksS P w A.in1 J fp wr G n Pv St) (a : Addr) (away : a ∉ fp) (zs : List Str) (hn : n = zs.length) (hb : zs.length + 1 < scanBound) (nd : zs.Nodup) (each : ∀ i v, Pv i v → ∃ k t, zs[i]? = some k ∧ v = .str k t) :
    ∀ (m j : Nat) (s : Shared), n - j = m → j ≤ n → St j s → s.heap.SetOf (PySem.strKind P w) a (fun x => decide (x ∈ zs.take j)) j →
      (∀ s', Moved (a :: wr) G s s' → s'.heap.SetOf (PySem.strKind P w) a (fun x => decide (x ∈ zs)) n → R (.ok (.ret .none)) s') →
      codeAny (model P w) A (.builtin "set.update.loop" ⟨[.ref a, .ref J], []⟩) R s
  | 0, j, s, hm, hj, hst, hS, done => by
    obtain rfl : j = n := by omega
    refine codeAny_builtin F.entry_set_update_loop ?_; rw [Around.under_plainId F.plain_set_update_loop _]; show wpAny _ A.in1 (pyNext (.ref J) >>= _) _ _ s
    refine wpAny_bind (V.done s _ _ hst fun s1 mv => ?_)
    show wpAny _ A.in1 (ret Value.none) _ _ s1
    have e : zs.take j = zs := List.take_of_length_le (by omega)
    rw [e] at hS
    refine wpAny_pure (done s1 (mv.mono fun b hb => List.mem_cons_of_mem _ hb) ?_)
    obtain ⟨o, es, ep, tb, ho, rest⟩ := hS
    exact ⟨o, es, ep, tb, mv.heap a _ (fun z => away (V.sub _ z)) ho, rest⟩
  | m + 1, j, s, hm, hj, hst, hS, done => by
    have lt : j < n := by omega
    refine codeAny_builtin F.entry_set_update_loop ?_; rw [Around.under_plainId F.plain_set_update_loop _]; show wpAny _ A.in1 (pyNext (.ref J) >>= _) _ _ s
    refine wpAny_bind (V.item j s _ _ lt hst fun v s1 pv st1 mv => ?_)
    obtain ⟨z, t, hz, rfl⟩ := each j v pv
    have hS1 : s1.heap.SetOf (PySem.strKind P w) a (fun x => decide (x ∈ zs.take j)) j := by
      obtain ⟨o, es, ep, tb, ho, rest⟩ := hS
      exact ⟨o, es, ep, tb, mv.heap a _ (fun z => away (V.sub _ z)) ho, rest⟩
    show wpAny _ A.in1 (holding [Value.str z t] (setAdd a (.str z t)) >>= _) _ _ s1
    refine wpAny_bind (wpAny_holding ?_); unfold setAdd; refine wpAny_holding (wpAny_bind ((PySem.strKind P w).pyHash (k := z) (strKind_is _ _ _ _) ?_))
    refine wpAny_setAddHashed_of (knd := PySem.strKind P w) (s := { s1 with toks := s1.toks + 1 }) (strKind_is _ _ _ _) rfl hS1 (by unfold scanBound at hb ⊢; omega) fun h2 sb hS2 => ?_
    have fresh : decide (z ∈ zs.take j) = false := decide_eq_false fun y => by
      obtain ⟨i, hi, ei⟩ := List.getElem_of_mem y
      have hi' : i < j := by rw [List.length_take] at hi; omega
      rw [List.getElem_take] at ei
      have hjl : j < zs.length := by omega
      have ez : zs[j] = z := by rw [List.getElem?_eq_getElem hjl] at hz; exact Option.some.inj hz
      exact absurd ((List.getElem_inj nd).mp (ei.trans ez.symm)) (by omega)
    have hS3 : h2.SetOf (PySem.strKind P w) a (fun x => decide (x ∈ zs.take (j + 1))) (j + 1) := by
      refine SetOf_congr hS2 (fun x => ?_) (by rw [fresh]; rfl)
      rw [List.take_add_one, hz]
      simp [List.mem_append]
    refine wpAny_pure ⟨plainId_quiet F.plain_set_update_loop _, texts_in V a away zs hn hb nd each m (j + 1) _ (by omega) lt (V.frame _ s1 _ _ st1 (Nat.le_succ _) fun b hb o e => ?_) hS3 fun s3 mv3 hS4 => ?_⟩
    · rw [sb.2 b (fun y : b = a => away (by rw [← y]; exact hb))]; exact e
    · refine done s3 (Moved.trans V.gtrans ((mv.mono fun b hb => List.mem_cons_of_mem _ hb).then_heap (Nat.le_succ _) fun b o hb e => ?_) mv3) hS4
      rw [sb.2 b (fun y : b = a => hb (by rw [y]; exact List.mem_cons_self))]; exact e
set_option maxHeartbeats 8000000 in
theorem set_of_txt {q : Addr} {its : Array Value} (zs : List Str) {Q : Value → Shared → Prop} (hA : A.handled = none) (hq : s.heap.IsList q its) (hv : StrsAre its.toList zs) (nd : zs.Nodup) (room : zs.length + 1 < scanBound)
    (fin : ∀ (h' : Heap) (tk : Nat), h'.SetOf (PySem.strKind P w) s.heap.objs.size (fun x => decide (x ∈ zs)) zs.length → (∀ b o, s.heap.get? b = some o → h'.get? b = some o) → Q (.ref s.heap.objs.size) { s with heap := h', toks := tk }) :
    wpAny (model P w) A (call (.type "set") [.ref q]) Q E s := by
  have sz : its.size = zs.length := by have z := StrsAre.len_eq hv; rwa [Array.length_toList] at z
  obtain ⟨c0, tl0, mro0⟩ := F.called_set.mro
  have made0 := F.called_set.made
  have sub0 := F.called_set.sub
  refine wpAny_call (codeAny_of_tree ?_)
  show wpAny _ _ (callAny (.type "set") _) _ _ _
  refine wpAny_pure ⟨Code.quiet_builtin _ (by decide +kernel), codeAny_builtin F.entry_type_call ?_⟩
  rw [Around.under_plain (weight_type_call_type "set" [.ref q] []) rfl]
  have n1 := F.called_set.notType
  have n2 := F.called_set.canCreate
  have n3 := F.typeCall_set_1 (.ref q)
  repeat (any_goals (first | assumption | wp_step))
  refine codeAny_mono (code_set_led1 (.ref q) (E := E) (Q₁ := fun x s₁ => x = .ref s.heap.objs.size ∧ s₁ = { s with heap := s.heap.push (newSet w) }) ⟨rfl, rfl⟩) fun r s₁ hr => ?_
  cases r with
  | error e => exact hr
  | ok fl =>
    cases fl with
    | ret x =>
      obtain ⟨rfl, rfl⟩ := hr
      have at0 : (s.heap.push (newSet w)).get? s.heap.objs.size = some (newSet w) := Heap.get?_push_size _ rfl
      have ty0 : Shared.TypeIs { s with heap := s.heap.push (newSet w) } (.ref s.heap.objs.size) "set" := ⟨_, at0, rfl⟩
      have look0 := F.called_set.init.lookup
      have bind0 := F.called_set.init.bind (.ref s.heap.objs.size)
      repeat (any_goals (first | assumption | wp_step))
      refine codeAny_mono (codeAny_call_builtin (R := wants (fun y s₂ => y = .none ∧ ∃ h' tk, s₂ = { s with heap := h', toks := tk } ∧ h'.SetOf (PySem.strKind P w) s.heap.objs.size (fun x => decide (x ∈ zs)) zs.length ∧ (∀ b o, s.heap.get? b = some o → h'.get? b = some o)) E) F.called_set.init.plain F.entry_set_init (check_set_init_1 ty0 ?_)) fun r₂ s₂ hr₂ => ?_
      · obtain ⟨ol, hol, hcl, nl, hdl⟩ := hq
        obtain ⟨ocls, odict, odata, oslots⟩ := ol
        simp only at hcl hdl
        subst hcl; subst hdl
        have lst0 : (s.heap.push (newSet w)).get? q = some { cls := .type "list", dict := odict, data := .seq its nl, slots := oslots } := Heap.get?_push_of_some _ hol
        have s1 := F.sub_list_set
        have s2 := F.sub_list_frozenset
        have ne0 : (Value.type "list" == Value.type "dict") = false := by decide
        have isl : (s.heap.push (newSet w)).IsList q its := ⟨_, lst0, rfl, nl, rfl⟩
        unfold Builtin.«set.__init__» noKeywords Builtin.Frozenset.updateFrom
        generalize hPI : pyIter = PI
        wp_walk
        subst hPI
        refine wpAny_pyIter_list isl ?_
        refine wpAny_bind (wpAny_runValue ?_)
        have below : q < s.heap.objs.size := Heap.lt_size hol
        have hh3 : A.in1.in1.in1.handled = none := by simp [hA]
        have z1 : (s.heap.push (newSet w)).objs.size = s.heap.objs.size + 1 := Heap.size_push ..
        have apart : q ≠ (s.heap.push (newSet w)).objs.size := by
          rw [z1]
          exact Nat.ne_of_lt (Nat.lt_succ_of_lt below)
        have away : s.heap.objs.size ∉ [(s.heap.push (newSet w)).objs.size, q] := by
          rw [z1]
          simp only [List.mem_cons, List.mem_singleton, List.not_mem_nil, or_false, not_or]
          exact ⟨Nat.ne_of_lt (Nat.lt_succ_self _), Nat.ne_of_gt below⟩
        have each : ∀ (i : Nat) (v : Value), its[i]? = some v → ∃ k t, zs[i]? = some k ∧ v = .str k t := fun i v hi => by
          have lt : i < zs.length := by rw [← sz]; exact (Array.getElem?_eq_some_iff.mp hi).1
          obtain ⟨t, e⟩ := SS.strs_at hv i v (by rw [Array.getElem?_toList]; exact hi)
          refine ⟨zs[i], t, List.getElem?_eq_getElem lt, ?_⟩
          rw [e, List.getD_eq_getElem?_getD, List.getElem?_eq_getElem lt] <;> rfl
        refine texts_in ((Walks.list hh3 _ q apart its).toS) s.heap.objs.size away zs sz room nd each (its.size - 0) 0 _ (by omega) (Nat.zero_le _) ⟨⟨_, Heap.get?_push_size _ rfl, rfl, rfl⟩, (isl.push _)⟩ ?start0 ?behind
        case start0 =>
          have g : ((s.heap.push (newSet w)).push { cls := .type "list_iterator", data := .fields #[.ref q, .int 0 0] }).get? s.heap.objs.size = some (newSet w) := Heap.get?_push_of_some _ at0
          exact SetOf_congr ((setObjOf_fresh (knd := PySem.strKind P w) (!w.params.followText "set-order")).setOf g (by unfold scanBound; omega)) (fun x => by simp) rfl
        case behind =>
          intro s' mv hS'
          obtain ⟨h', g2, d', tk', os'⟩ := s'
          obtain rfl : g2 = s.gens := mv.gens
          obtain rfl : d' = s.drawn := mv.drawn
          obtain rfl : os' = s.os := mv.os
          show wpAny _ _ _ _ _ _
          refine wpAny_pure ?_
          show wpAny _ _ (ret Value.none) _ _ _
          rw [sz] at hS'
          refine wpAny_pure ⟨rfl, h', tk', rfl, hS', fun b o e => ?_⟩
          have b0 : b < s.heap.objs.size := Heap.lt_size e
          refine mv.heap b o ?_ (Heap.get?_push_of_some _ (Heap.get?_push_of_some _ e))
          rw [z1]
          simp only [List.mem_cons, List.mem_singleton, List.not_mem_nil, or_false, not_or]
          exact ⟨Nat.ne_of_lt b0, Nat.ne_of_lt (Nat.lt_succ_of_lt b0)⟩
      · cases r₂ with
        | error e => exact hr₂
        | ok fl₂ =>
          cases fl₂ with
          | ret y =>
            obtain ⟨rfl, h', tk, rfl, hS', hk'⟩ := hr₂
            repeat (any_goals (first | assumption | wp_step))
            exact fin _ _ hS' hk'
          | _ => exact hr₂.elim
    | _ => exact hr.elim
end
/-! ### len(set(xs)) -/
open PySem PySem.Spec L2
def TxtO (P : Program) (w : World) (a : Addr) (zs : List Str) : HO := .ext fun h => h.SetOf (PySem.strKind P w) a (fun x => decide (x ∈ zs)) zs.length
theorem txtO_new {w : World} {P : Program} {H : Hp} {h : Heap} {a : Addr} {zs : List Str} (R : h.SetOf (PySem.strKind P w) a (fun x => decide (x ∈ zs)) zs.length) : ObjOk P w H h a (TxtO P w a zs) := by
  have R0 := R
  obtain ⟨o, es, ep, t, ho, rest⟩ := R0
  refine ⟨R, ⟨o, ho⟩, fun h1 h2 p k => ?_⟩
  obtain ⟨o, es, ep, t, ho, rest⟩ := (show h1.SetOf (PySem.strKind P w) a (fun x => decide (x ∈ zs)) zs.length from p)
  exact ⟨o, es, ep, t, k _ ho, rest⟩
def rSetT (X : Cx) : List V → Hp → VK → Prop := fun xs H Q => ∃ (l : Addr) (zs : List Str), xs = [.ref l] ∧ SqL X.K H l (zs.map V.str) ∧ zs.Nodup ∧ zs.length < 4000 ∧ ∀ p, H p = none → Q (.ref p) (upd H p (TxtO X.prog X.w p zs))
theorem cr_setT {X : Cx} (hc : X.calm = true) : CallR X (.type "set") (rSetT X) := by
  intro pins s σ H xs us Q I r h
  obtain ⟨l, zs, rfl, hl, nd, h4, q⟩ := h
  rw [Vals.ref1 r]
  obtain ⟨its, rv, pl, hz⟩ := I.list hl
  have free : H s.heap.objs.size = none := I.hok.fresh (Nat.le_refl _)
  refine set_of_txt (P := X.prog) (w := X.w) zs (I.ok.hd hc) pl.isList (by simpa using strsAre_of rv) nd (by unfold scanBound; omega) fun h' tk R k => ?_
  exact ⟨.ref s.heap.objs.size, upd H s.heap.objs.size (TxtO X.prog X.w s.heap.objs.size zs), I.laid (t' := tk) k (Nat.le_refl _) (txtO_new R), rfl, q _ free⟩
def rLenT (X : Cx) : List V → Hp → VK → Prop := fun xs H Q => ∃ (a : Addr) (zs : List Str), xs = [.ref a] ∧ H a = some (TxtO X.prog X.w a zs) ∧ zs.length < 4000 ∧ Q (.int zs.length) H
theorem cr_lenT {X : Cx} : CallR X (.builtin "len") (rLenT X) := by
  intro pins s σ H xs us Q I r h
  obtain ⟨a, zs, rfl, ha, h4, q⟩ := h
  rw [Vals.ref1 r]
  obtain ⟨o, es, ep, t, ho, hex, hd, _, _, _, hf, hn⟩ := (show s.heap.SetOf (PySem.strKind X.prog X.w) a (fun x => decide (x ∈ zs)) zs.length from (I.hok a _ ha).1)
  exact call_len_set ho hex hd hf (by rw [hn]; omega) ⟨.int zs.length, H, I.tok _, ⟨_, by rw [hn]⟩, q⟩
end Ev

namespace Ev
open PySem PySem.Spec L2
/-! ### len(set(xs)), xs a list of unlike texts -/
open Classical in
noncomputable def lenSetW (w : W) : Option W := (lisW w).bind fun ws => (strsW ws).bind fun zs => if zs.Nodup ∧ zs.length < 4000 then some (.int (zs.length : Nat)) else none
theorem w_lenSet (b : Bool) (zs : List Str) (nd : zs.Nodup) (h : zs.length < 4000) : lenSetW (.lst b (zs.map W.str)) = some (.int (zs.length : Nat)) := by
  unfold lenSetW lisW
  rw [Option.bind_some, strsW_map, Option.bind_some, if_pos ⟨nd, h⟩]
section
variable {Z : Zt} {e : Expr} {m : Sm W} {p k1 : Bool} {p1 p2 p3 p4 : Pos}
theorem me_lenSet (hc : Z.X.calm = true) (hm : Z.X.mg "len" = none) (hm2 : Z.X.mg "set" = none) (ha : ME Z e m p k1) (hg : Gl Z.X "len" := by rfl) (hg2 : Gl Z.X "set" := by rfl) (hs : starEach [e] Z.X.env = (false, eval e Z.X.env) :: starEach [] Z.X.env := by rfl)
    (hs2 : starEach [.Call (.Name "set" p1) [e] [] p2] Z.X.env = (false, eval (.Call (.Name "set" p1) [e] [] p2) Z.X.env) :: starEach [] Z.X.env := by rfl) :
    ME Z (.Call (.Name "len" p3) [.Call (.Name "set" p1) [e] [] p2] [] p4) (mUn lenSetW m) p true := by
  have h1 := pe_callTy (p := p1) (pos := p2) (cr_setT hc) hg2 hm2 (show bootBuiltins "set" = some (.type "set") by decide +kernel) (pa_cons ha pa_nil hs) (by decide) (by decide) hs rfl
  have h2 := pe_callB (p := p3) (pos := p4) cr_lenT hg hm PySem.boot_len (pa_cons h1 pa_nil hs2) (by decide) (by decide) hs2 rfl
  refine pe_imp h2 fun σ H Q q => tx_un (r := fun x H1 Q => rSetT Z.X [x] H1 fun y H2 => rLenT Z.X [y] H2 Q) (fun G H w1 v1 O1 w Q s r e q => ?_) q
  unfold lenSetW at e
  cases h : lisW w1 with
  | none => rw [h] at e; cases e
  | some ws =>
    cases h2 : strsW ws with
    | none => rw [h, Option.bind_some, h2] at e; cases e
    | some zs =>
      rw [h, Option.bind_some, h2, Option.bind_some] at e
      by_cases h4 : zs.Nodup ∧ zs.length < 4000
      · rw [if_pos h4] at e
        cases e
        obtain ⟨a, vs, rfl, h3, hr⟩ := lisW_at s r h
        rw [strsW_eq h2] at hr
        rw [RFs.strs hr] at h3
        exact ⟨a, zs, rfl, h3, h4.1, h4.2, fun y ny => ⟨y, zs, rfl, upd_same, h4.2, (q.on ny).int (sub_upd s ny)⟩⟩
      · rw [if_neg h4] at e; cases e
end
end Ev

namespace Ev
open PySem PySem.Spec L2
/-! ### a, b, c = (x, y, z): stored from the right -/
def sPar3 (i j l : Nat) (m : Sm (List W)) : Sm Fl := Sm.bind m fun ws env => match tgL [i, j, l] ws env with
  | some env' => .ok .nx env'
  | none => .bad
theorem ms_par3 {Z : Zt} {i j l : Nat} {x y z : Str} {a b c : Expr} {m : Sm (List W)} {p : Bool} {px py pz pt pos : Pos} {kt k2 : Nat} {pt2 : Pos} (hc : Z.X.calm = true) (hN : Z.X.N.Nodup) (ha : MA Z [a, b, c] m p)
    (hi : Z.X.N[i]? = some x := by rfl) (hj : Z.X.N[j]? = some y := by rfl) (hl : Z.X.N[l]? = some z := by rfl) (hij : i ≠ j := by decide) (hil : i ≠ l := by decide) (hjl : j ≠ l := by decide)
    (hx : Z.X.env.scope.names.lookup x = some .local := by rfl) (hy : Z.X.env.scope.names.lookup y = some .local := by rfl) (hz : Z.X.env.scope.names.lookup z = some .local := by rfl)
    (hio : Z.io i = false := by rfl) (hio2 : Z.io j = false := by rfl) (hio3 : Z.io l = false := by rfl)
    (hw : swappedStores [.Tuple [.Name x px, .Name y py, .Name z pz] kt pt] (.Tuple [a, b, c] k2 pt2) Z.X.env = pure (some [x, y, z]) := by rfl)
    (hs : swapsWithSole [.Tuple [.Name x px, .Name y py, .Name z pz] kt pt] (.Tuple [a, b, c] k2 pt2) pos.line Z.X.env = pure false := by rfl) :
    MS Z (.Assign [.Tuple [.Name x px, .Name y py, .Name z pz] kt pt] (.Tuple [a, b, c] k2 pt2) pos) (sPar3 i j l m) :=
  ps_imp (ps_par3 hc hN hi hj hl hij hil hjl hx hy hz ha hw hs) fun E σ H q => by
  obtain ⟨env, G, Os, s, q⟩ := q
  refine ⟨env, G, Os, s, ?_⟩
  unfold sPar3 Sm.bind at q
  cases e : m env with
  | bad => rw [e] at q; exact q
  | ex c env1 =>
    rw [e] at q
    exact fun G' H' Os' s' t => q σ G' H' Os' s' t.st (IoS.refl _)
  | ok ws env1 =>
    rw [e] at q
    intro vs G' H' Os' s' r t
    dsimp only at q
    match ws, r, q with
    | [w1, w2, w3], r, q =>
      obtain ⟨v1, r1, rfl, h1, v2, r2, rfl, h2, v3, r3, rfl, h3, rfl⟩ := r
      refine ⟨v1, v2, v3, rfl, ?_⟩
      have s2 := ((s'.putF i h1).putF j h2).putF l h3
      refine q _ G' H' _ s2 (t.st.less fun a ha => flat_sub a (flat_sub a (flat_sub a ha))) (((IoS.set hio).trans (IoS.set hio2)).trans (IoS.set hio3))
    | [], _, q => exact q.elim
    | [_], _, q => exact q.elim
    | [_, _], _, q => exact q.elim
    | _ :: _ :: _ :: _ :: _, _, q => exact q.elim
theorem r_par3 {env : List W} (i j l : Nat) (m : Sm (List W)) : sPar3 i j l m env = match m env with
  | .ok ws env1 => (match tgL [i, j, l] ws env1 with
    | some env' => .ok .nx env'
    | none => .bad)
  | .ex c e' => .ex c e'
  | .bad => .bad := by
  unfold sPar3
  rw [r_bind]
  cases m env <;> rfl
section
variable {Z : Zt} {o e e2 : Expr} {i : Nat} {mp : Sm (List Nat)} {m : Sm (List W)} {apos cpos : Pos}
theorem me_popAtP (ho : MP Z o i mp) (ha : MA Z [e] m true)
    (hbase : attributeBase o "pop" Z.X.env (eval o Z.X.env) = eval o Z.X.env := by rfl)
    (hfew : ((backTo cpos (starEach [e] Z.X.env)).all (fun x => !x.1) && (backToKw cpos (keywordEach [] Z.X.env)).all (fun x => x.1.isSome)
      && decide ([e].length + ([] : List Keyword).length + (if ([] : List Keyword).isEmpty then 0 else 1) < 30)) = true := by rfl)
    (hline : (apos.endLine == cpos.line) = true := by rfl) (hs : starEach [e] Z.X.env = (false, eval e Z.X.env) :: starEach [] Z.X.env := by rfl) :
    ME Z (.Call (.Attribute o "pop" apos) [e] [] cpos) (mMutP i mp fPopAt m) false true := me_mutP PySem.F.slot_list_pop PySem.F.type_list_pop mut_popAt ho ha hbase hfew hline hs rfl
theorem me_popK (ho : MP Z o i mp) (ha : MA Z [e] m true)
    (hbase : attributeBase o "pop" Z.X.env (eval o Z.X.env) = eval o Z.X.env := by rfl)
    (hfew : ((backTo cpos (starEach [e] Z.X.env)).all (fun x => !x.1) && (backToKw cpos (keywordEach [] Z.X.env)).all (fun x => x.1.isSome)
      && decide ([e].length + ([] : List Keyword).length + (if ([] : List Keyword).isEmpty then 0 else 1) < 30)) = true := by rfl)
    (hline : (apos.endLine == cpos.line) = true := by rfl) (hs : starEach [e] Z.X.env = (false, eval e Z.X.env) :: starEach [] Z.X.env := by rfl) :
    ME Z (.Call (.Attribute o "pop" apos) [e] [] cpos) (mMutKP i mp kPop m) false true := me_mutKP PySem.F.slot_list_pop PySem.F.type_list_pop mutK_pop ho ha hbase hfew hline hs rfl
theorem me_insertK (ho : MP Z o i mp) (ha : MA Z [e, e2] m true)
    (hbase : attributeBase o "insert" Z.X.env (eval o Z.X.env) = eval o Z.X.env := by rfl)
    (hfew : ((backTo cpos (starEach [e, e2] Z.X.env)).all (fun x => !x.1) && (backToKw cpos (keywordEach [] Z.X.env)).all (fun x => x.1.isSome)
      && decide ([e, e2].length + ([] : List Keyword).length + (if ([] : List Keyword).isEmpty then 0 else 1) < 30)) = true := by rfl)
    (hline : (apos.endLine == cpos.line) = true := by rfl) (hs : starEach [e, e2] Z.X.env = (false, eval e Z.X.env) :: starEach [e2] Z.X.env := by rfl) (hs2 : (backTo cpos (starEach [e2] Z.X.env)).any (·.1) = false := by rfl) :
    ME Z (.Call (.Attribute o "insert" apos) [e, e2] [] cpos) (mMutKP i mp fInsert m) false true := me_mutKP PySem.F.slot_list_insert PySem.F.type_list_insert mutK_insert ho ha hbase hfew hline hs hs2
end
end Ev

namespace Ev
open PySem PySem.Spec L2
def topS (i : Nat) : Stmt := PySem.Challenge.pw_evenlots_k46_whole_one_writing_each.main.body.getD i (.Pass ⟨0, 0, 0, 0⟩)
theorem boot_VE : bootBuiltins "ValueError" = some (.type "ValueError") := by decide +kernel
section
variable {P : Program} {w : World} {K : PySem.W.Frag} {mg : Str → Option Value} {base : Heap} {CA : Nat → Addr}
/-! ### is_whole_number -/
abbrev s_is_whole_number : Stmt := topS 7
abbrev N_is_whole_number : List Str := ["thing"]
theorem sc_is_whole_number : FnScope N_is_whole_number ["thing"] (defScope s_is_whole_number) := ⟨rfl, rfl, rfl, by decide +kernel, rfl, by decide +kernel, by decide +kernel⟩
noncomputable def b_is_whole_number : Sm Fl := sRet true (mAndV (mUn (isiW ["int"]) (mVar 0)) (mNotV (mUn (isiW ["bool"]) (mVar 0))))
noncomputable def f_is_whole_number : Fn := fnSem 1 [false] b_is_whole_number
theorem w_is_whole_number {f : Addr} {fd : FuncData} (F : Fun K "is_whole_number" "is_whole_number" s_is_whole_number f fd) (g : mg "is_whole_number" = some (.ref f)) (hb : Binds K fd ["thing"] []) (m_bool : mg "bool" = none) (m_int : mg "int" = none) (m_isinstance : mg "isinstance" = none) : FnT P w K mg base CA "is_whole_number" 1 1 f_is_whole_number :=
  fnt_body F g hb sc_is_whole_number rfl rfl rfl fun cdv A outer s H E hr => (mss_one (ms_ret (me_and (p1 := true) (p2 := true) (me_isi ["int"] (ca_ty (by rfl) m_int PyProof.Rows.boot_int) m_isinstance (me_var 0 (pv 0))) (me_one (me_not (me_isi ["bool"] (ca_ty (by rfl) m_bool PyProof.Rows.boot_bool) m_isinstance (me_var 0 (pv 0))))))))
/-! ### is_tag -/
abbrev s_is_tag : Stmt := topS 8
abbrev N_is_tag : List Str := ["thing", "sign"]
theorem sc_is_tag : FnScope N_is_tag ["thing"] (defScope s_is_tag) := ⟨rfl, rfl, rfl, by decide +kernel, rfl, by decide +kernel, by decide +kernel⟩
noncomputable def c_is_tag_1 : Sm W := mComp true (tgN 1) (toB (mBin (inW true) true (mVar 1) (mC (.str "abcdefghijklmnopqrstuvwxyz")))) (mVar 1) [1] (iChr (mVar 0))
noncomputable def b_is_tag : Sm Fl := sSeq (sIf (mOr (mNot (toB (mUn (isiW ["str"]) (mVar 0)))) (mNot (toB (mChain leXW leXW (mC (.int 1)) (mUn lenW (mVar 0)) (mC (.int 8)))))) (sRet true (mC (.bl false))) (sNil)) (sRet true (mBin eqW true (c_is_tag_1) (mArgs (lstW true) (mNil))))
noncomputable def f_is_tag : Fn := fnSem 2 [false] b_is_tag
theorem w_is_tag {f : Addr} {fd : FuncData} (F : Fun K "is_tag" "is_tag" s_is_tag f fd) (g : mg "is_tag" = some (.ref f)) (hb : Binds K fd ["thing"] []) (m_isinstance : mg "isinstance" = none) (m_len : mg "len" = none) (m_str : mg "str" = none) {t_LETTERS : Tok} (c_LETTERS : mg "LETTERS" = some (.str "abcdefghijklmnopqrstuvwxyz" t_LETTERS)) {t_LONGEST_TAG : Tok} (c_LONGEST_TAG : mg "LONGEST_TAG" = some (.int 8 t_LONGEST_TAG)) : FnT P w K mg base CA "is_tag" 1 1 f_is_tag :=
  fnt_body F g hb sc_is_tag rfl rfl rfl fun cdv A outer s H E hr => (mss_cons (ms_if (mt_w (mw_or (p1 := true) (p2 := true) (mt_not (mt_val (me_isi ["str"] (ca_ty (by rfl) m_str PyProof.Rows.boot_str) m_isinstance (me_var 0 (pv 0))))) (mw_or1 (mt_not (mt_chain (op_leXW hr) (op_leXW hr) me_int (me_len m_len (me_var 0 (pv 0))) (me_globI (by rfl) (c_LONGEST_TAG))))))) (mss_one (ms_ret me_bl)) mss_nil) (mss_one (ms_ret (me_cmp (p1 := true) (p2 := true) (k1 := true) (op_eqW hr) (me_lc rfl sc_is_tag.nd (own := [("sign", 1)]) (p := true) (pt := true) (pe := true) (mi_chr (me_var 0 (pv 0))) (show BlkOk N_is_tag (defScope s_is_tag) _ _ from blkOk_by (own := [("sign", 1)]) (by decide +kernel)) (fun _ _ _ _ _ => (mg_name (i := 1) sc_is_tag.nd)) (fun _ _ _ _ _ => (mts_one (mt_cmp (p1 := true) (p2 := true) (k1 := false) (op_notInW hr) (me_var 1 (pv 1)) (me_globS (by rfl) (c_LETTERS))))) (fun _ _ _ _ _ => (me_var 1 (pv 1)))) (me_lst true ma_nil)))))
/-! ### is_keyed -/
abbrev s_is_keyed : Stmt := topS 9
abbrev N_is_keyed : List Str := ["thing"]
theorem sc_is_keyed : FnScope N_is_keyed ["thing"] (defScope s_is_keyed) := ⟨rfl, rfl, rfl, by decide +kernel, rfl, by decide +kernel, by decide +kernel⟩
noncomputable def b_is_keyed : Sm Fl := sRet true (mAndV (mUn (isiW ["tuple"]) (mVar 0)) (mAndV (mBin eqW true (mUn lenW (mVar 0)) (mC (.int 2))) (mAndV (mCallP f_is_whole_number (Sm.bind (mCons (mBin ixW true (mVar 0) (mC (.int 0))) (mNil)) fun ws => if ws.length = 1 then Sm.ret ws else fun _ => .bad)) (mCallP f_is_tag (Sm.bind (mCons (mBin ixW true (mVar 0) (mC (.int 1))) (mNil)) fun ws => if ws.length = 1 then Sm.ret ws else fun _ => .bad)))))
noncomputable def f_is_keyed : Fn := fnSem 1 [false] b_is_keyed
theorem w_is_keyed {f : Addr} {fd : FuncData} (F : Fun K "is_keyed" "is_keyed" s_is_keyed f fd) (g : mg "is_keyed" = some (.ref f)) (hb : Binds K fd ["thing"] []) (m_isinstance : mg "isinstance" = none) (m_len : mg "len" = none) (m_tuple : mg "tuple" = none) (F_is_whole_number : FnT P w K mg base CA "is_whole_number" 1 1 f_is_whole_number) (F_is_tag : FnT P w K mg base CA "is_tag" 1 1 f_is_tag) : FnT P w K mg base CA "is_keyed" 1 2 f_is_keyed :=
  fnt_body F g hb sc_is_keyed rfl rfl rfl fun cdv A outer s H E hr => (mss_one (ms_ret (me_and (p1 := true) (p2 := true) (me_isi ["tuple"] (ca_ty (by rfl) m_tuple PyProof.Rows.boot_tuple) m_isinstance (me_var 0 (pv 0))) (me_and (p1 := true) (p2 := true) (me_cmp (p1 := true) (p2 := true) (k1 := true) (op_eqW hr) (me_len m_len (me_var 0 (pv 0))) me_int) (me_and (p1 := true) (p2 := true) (me_callP F_is_whole_number (hr.mono (by decide)) zf_takes (ma_cons (p1 := true) (p2 := true) (me_ix (p1 := true) (p2 := true) (k1 := false) (me_var 0 (pv 0)) me_int) ma_nil) (by rfl)) (me_one (me_callP F_is_tag (hr.mono (by decide)) zf_takes (ma_cons (p1 := true) (p2 := true) (me_ix (p1 := true) (p2 := true) (k1 := false) (me_var 0 (pv 0)) me_int) ma_nil) (by rfl))))))))
/-! ### is_row -/
abbrev s_is_row : Stmt := topS 10
abbrev N_is_row : List Str := ["thing", "one"]
theorem sc_is_row : FnScope N_is_row ["thing"] (defScope s_is_row) := ⟨rfl, rfl, rfl, by decide +kernel, rfl, by decide +kernel, by decide +kernel⟩
noncomputable def c_is_row_1 : Sm W := mComp true (tgN 1) (mNot (toB (mCallP f_is_keyed (Sm.bind (mCons (mVar 1) (mNil)) fun ws => if ws.length = 1 then Sm.ret ws else fun _ => .bad)))) (mVar 1) [1] (iLst (mVar 0))
noncomputable def b_is_row : Sm Fl := sRet true (mAndV (mUn (isiW ["list"]) (mVar 0)) (mBin eqW true (c_is_row_1) (mArgs (lstW true) (mNil))))
noncomputable def f_is_row : Fn := fnSem 2 [false] b_is_row
theorem w_is_row {f : Addr} {fd : FuncData} (F : Fun K "is_row" "is_row" s_is_row f fd) (g : mg "is_row" = some (.ref f)) (hb : Binds K fd ["thing"] []) (m_isinstance : mg "isinstance" = none) (m_list : mg "list" = none) (F_is_keyed : FnT P w K mg base CA "is_keyed" 1 2 f_is_keyed) : FnT P w K mg base CA "is_row" 1 3 f_is_row :=
  fnt_body F g hb sc_is_row rfl rfl rfl fun cdv A outer s H E hr => (mss_one (ms_ret (me_and (p1 := true) (p2 := true) (me_isi ["list"] (ca_ty (by rfl) m_list PyProof.Rows.boot_list) m_isinstance (me_var 0 (pv 0))) (me_one (me_cmp (p1 := true) (p2 := true) (k1 := true) (op_eqW hr) (me_lc rfl sc_is_row.nd (own := [("one", 1)]) (p := true) (pt := true) (pe := true) (mi_list (me_var 0 (pv 0))) (show BlkOk N_is_row (defScope s_is_row) _ _ from blkOk_by (own := [("one", 1)]) (by decide +kernel)) (fun _ _ _ _ _ => (mg_name (i := 1) sc_is_row.nd)) (fun _ _ _ _ _ => (mts_one (mt_not (mt_val (me_callP F_is_keyed (hr.mono (by decide)) blk_takes (ma_cons (p1 := true) (p2 := true) (me_var 1 (pv 1)) ma_nil) (by rfl)))))) (fun _ _ _ _ _ => (me_var 1 (pv 1)))) (me_lst true ma_nil))))))
/-! ### are_rows -/
abbrev s_are_rows : Stmt := topS 11
abbrev N_are_rows : List Str := ["thing", "row"]
theorem sc_are_rows : FnScope N_are_rows ["thing"] (defScope s_are_rows) := ⟨rfl, rfl, rfl, by decide +kernel, rfl, by decide +kernel, by decide +kernel⟩
noncomputable def c_are_rows_1 : Sm W := mComp true (tgN 1) (mNot (toB (mCallP f_is_row (Sm.bind (mCons (mVar 1) (mNil)) fun ws => if ws.length = 1 then Sm.ret ws else fun _ => .bad)))) (mVar 1) [1] (iLst (mVar 0))
noncomputable def b_are_rows : Sm Fl := sSeq (sIf (mOr (mNot (toB (mUn (isiW ["list"]) (mVar 0)))) (mNot (toB (mChain leXW leXW (mC (.int 1)) (mUn lenW (mVar 0)) (mC (.int 6)))))) (sRet true (mC (.bl false))) (sNil)) (sRet true (mBin eqW true (c_are_rows_1) (mArgs (lstW true) (mNil))))
noncomputable def f_are_rows : Fn := fnSem 2 [false] b_are_rows
theorem w_are_rows {f : Addr} {fd : FuncData} (F : Fun K "are_rows" "are_rows" s_are_rows f fd) (g : mg "are_rows" = some (.ref f)) (hb : Binds K fd ["thing"] []) (m_isinstance : mg "isinstance" = none) (m_len : mg "len" = none) (m_list : mg "list" = none) {t_MOST_HANDS : Tok} (c_MOST_HANDS : mg "MOST_HANDS" = some (.int 6 t_MOST_HANDS)) (F_is_row : FnT P w K mg base CA "is_row" 1 3 f_is_row) : FnT P w K mg base CA "are_rows" 1 4 f_are_rows :=
  fnt_body F g hb sc_are_rows rfl rfl rfl fun cdv A outer s H E hr => (mss_cons (ms_if (mt_w (mw_or (p1 := true) (p2 := true) (mt_not (mt_val (me_isi ["list"] (ca_ty (by rfl) m_list PyProof.Rows.boot_list) m_isinstance (me_var 0 (pv 0))))) (mw_or1 (mt_not (mt_chain (op_leXW hr) (op_leXW hr) me_int (me_len m_len (me_var 0 (pv 0))) (me_globI (by rfl) (c_MOST_HANDS))))))) (mss_one (ms_ret me_bl)) mss_nil) (mss_one (ms_ret (me_cmp (p1 := true) (p2 := true) (k1 := true) (op_eqW hr) (me_lc rfl sc_are_rows.nd (own := [("row", 1)]) (p := true) (pt := true) (pe := true) (mi_list (me_var 0 (pv 0))) (show BlkOk N_are_rows (defScope s_are_rows) _ _ from blkOk_by (own := [("row", 1)]) (by decide +kernel)) (fun _ _ _ _ _ => (mg_name (i := 1) sc_are_rows.nd)) (fun _ _ _ _ _ => (mts_one (mt_not (mt_val (me_callP F_is_row (hr.mono (by decide)) blk_takes (ma_cons (p1 := true) (p2 := true) (me_var 1 (pv 1)) ma_nil) (by rfl)))))) (fun _ _ _ _ _ => (me_var 1 (pv 1)))) (me_lst true ma_nil)))))
/-! ### names_plainly -/
abbrev s_names_plainly : Stmt := topS 12
abbrev N_names_plainly : List Str := ["rows", "found", "hand", "row", "place"]
theorem sc_names_plainly : FnScope N_names_plainly ["rows"] (defScope s_names_plainly) := ⟨rfl, rfl, rfl, by decide +kernel, rfl, by decide +kernel, by decide +kernel⟩
noncomputable def c_names_plainly_1 : Sm W := mComp true (tgN 4) (Sm.ret true) (mArgs tupW (mCons (mBin ixW true (mBin ixW true (mVar 3) (mVar 4)) (mC (.int 0))) (mCons (mVar 2) (mCons (mVar 4) (mNil))))) [4] (iArgs rng1 (mCons (mUn lenW (mVar 3)) (mNil)))
noncomputable def b_names_plainly_1 : Sm Fl := sDrop (mMut 1 fExtend (mCons (mFz (c_names_plainly_1)) (mNil)))
noncomputable def b_names_plainly : Sm Fl := sSeq (sSet 1 true (mArgs (lstW true) (mNil))) (sSeq (sFor (tgT [2, 3]) b_names_plainly_1 [2, 3] (iArgs enumL (mCons (mVar 0) (mNil)))) (sRet true (mUn (sortedW true) (mVar 1))))
noncomputable def f_names_plainly : Fn := fnSem 5 [false] b_names_plainly
theorem w_names_plainly {f : Addr} {fd : FuncData} (F : Fun K "names_plainly" "names_plainly" s_names_plainly f fd) (g : mg "names_plainly" = some (.ref f)) (hb : Binds K fd ["rows"] []) (m_enumerate : mg "enumerate" = none) (m_len : mg "len" = none) (m_range : mg "range" = none) (m_sorted : mg "sorted" = none) : FnT P w K mg base CA "names_plainly" 1 1 f_names_plainly :=
  fnt_body F g hb sc_names_plainly rfl rfl rfl fun cdv A outer s H E hr => (mss_cons (ms_set (i := 1) sc_names_plainly.nd (me_lst true ma_nil)) (mss_cons (ms_for [2, 3] zf_pass rfl (mi_enum m_enumerate (ma_cons (p1 := true) (p2 := true) (me_var 0 (pv 0)) ma_nil)) (mg_tup rfl (mgs_cons (i := 2) sc_names_plainly.nd (mgs_cons (i := 3) sc_names_plainly.nd mgs_nil))) (mss_one (ms_expr (me_extend (pv 1) (ma_cons (p1 := true) (p2 := true) (me_fz (me_lc rfl sc_names_plainly.nd (own := [("place", 4)]) (p := true) (pt := true) (pe := true) (mi_range1 m_range (ma_cons (p1 := true) (p2 := true) (me_len m_len (me_var 3 (pv 3))) ma_nil)) (show BlkOk N_names_plainly (defScope s_names_plainly) _ _ from blkOk_by (own := [("place", 4)]) (by decide +kernel)) (fun _ _ _ _ _ => (mg_name (i := 4) sc_names_plainly.nd)) (fun _ _ _ _ _ => mts_nil) (fun _ _ _ _ _ => (me_tup (ma_cons (p1 := true) (p2 := true) (me_ix (p1 := true) (p2 := true) (k1 := true) (me_ix (p1 := true) (p2 := true) (k1 := false) (me_var 3 (pv 3)) (me_var 4 (pv 4))) me_int) (ma_cons (p1 := true) (p2 := true) (me_var 2 (pv 2)) (ma_cons (p1 := true) (p2 := true) (me_var 4 (pv 4)) ma_nil))))))) ma_nil))))) (mss_one (ms_ret (me_sorted true hr m_sorted (me_var 1 (pv 1)))))))
/-! ### show_thing -/
abbrev s_show_thing : Stmt := topS 16
abbrev N_show_thing : List Str := ["thing"]
theorem sc_show_thing : FnScope N_show_thing ["thing"] (defScope s_show_thing) := ⟨rfl, rfl, rfl, by decide +kernel, rfl, by decide +kernel, by decide +kernel⟩
noncomputable def b_show_thing : Sm Fl := sRet true (mBin (addW true) true (mBin (addW true) true (mUn strOfW (mBin ixW true (mVar 0) (mC (.int 0)))) (mC (.str ":"))) (mBin ixW true (mVar 0) (mC (.int 1))))
noncomputable def f_show_thing : Fn := fnSem 1 [false] b_show_thing
theorem w_show_thing {f : Addr} {fd : FuncData} (F : Fun K "show_thing" "show_thing" s_show_thing f fd) (g : mg "show_thing" = some (.ref f)) (hb : Binds K fd ["thing"] []) (m_str : mg "str" = none) : FnT P w K mg base CA "show_thing" 1 1 f_show_thing :=
  fnt_body F g hb sc_show_thing rfl rfl rfl fun cdv A outer s H E hr => (mss_one (ms_ret (me_op (p1 := true) (p2 := true) (k1 := true) op_addW (me_op (p1 := true) (p2 := true) (k1 := true) op_addW (me_strOf m_str (me_ix (p1 := true) (p2 := true) (k1 := false) (me_var 0 (pv 0)) me_int)) me_str) (me_ix (p1 := true) (p2 := true) (k1 := false) (me_var 0 (pv 0)) me_int))))
/-! ### show_row -/
abbrev s_show_row : Stmt := topS 17
abbrev N_show_row : List Str := ["row", "thing"]
theorem sc_show_row : FnScope N_show_row ["row"] (defScope s_show_row) := ⟨rfl, rfl, rfl, by decide +kernel, rfl, by decide +kernel, by decide +kernel⟩
noncomputable def c_show_row_1 : Sm W := mComp true (tgN 1) (Sm.ret true) (mCallP f_show_thing (Sm.bind (mCons (mVar 1) (mNil)) fun ws => if ws.length = 1 then Sm.ret ws else fun _ => .bad)) [1] (iLst (mVar 0))
noncomputable def b_show_row : Sm Fl := sSeq (sIf (toB (mBin eqW true (mVar 0) (mArgs (lstW false) (mNil)))) (sRet true (mC (.str "-"))) (sNil)) (sRet true (mMeth tyStr joinW true (mC (.str ", ")) (mCons (mFz (c_show_row_1)) (mNil))))
noncomputable def f_show_row : Fn := fnSem 2 [false] b_show_row
theorem w_show_row {f : Addr} {fd : FuncData} (F : Fun K "show_row" "show_row" s_show_row f fd) (g : mg "show_row" = some (.ref f)) (hb : Binds K fd ["row"] []) (F_show_thing : FnT P w K mg base CA "show_thing" 1 1 f_show_thing) : FnT P w K mg base CA "show_row" 1 2 f_show_row :=
  fnt_body F g hb sc_show_row rfl rfl rfl fun cdv A outer s H E hr => (mss_cons (ms_if (mt_cmp (p1 := true) (p2 := true) (k1 := false) (op_eqW hr) (me_var 0 (pv 0)) (me_lst false ma_nil)) (mss_one (ms_ret me_str)) mss_nil) (mss_one (ms_ret (me_join (p1 := true) (p2 := true) (k1 := true) me_str (ma_cons (p1 := true) (p2 := true) (me_fz (me_lc rfl sc_show_row.nd (own := [("thing", 1)]) (p := true) (pt := true) (pe := true) (mi_list (me_var 0 (pv 0))) (show BlkOk N_show_row (defScope s_show_row) _ _ from blkOk_by (own := [("thing", 1)]) (by decide +kernel)) (fun _ _ _ _ _ => (mg_name (i := 1) sc_show_row.nd)) (fun _ _ _ _ _ => mts_nil) (fun _ _ _ _ _ => (me_callP F_show_thing (hr.mono (by decide)) blk_takes (ma_cons (p1 := true) (p2 := true) (me_var 1 (pv 1)) ma_nil) (by rfl))))) ma_nil)))))
/-! ### show_rows -/
abbrev s_show_rows : Stmt := topS 18
abbrev N_show_rows : List Str := ["rows", "row"]
theorem sc_show_rows : FnScope N_show_rows ["rows"] (defScope s_show_rows) := ⟨rfl, rfl, rfl, by decide +kernel, rfl, by decide +kernel, by decide +kernel⟩
noncomputable def c_show_rows_1 : Sm W := mComp true (tgN 1) (Sm.ret true) (mCallP f_show_row (Sm.bind (mCons (mVar 1) (mNil)) fun ws => if ws.length = 1 then Sm.ret ws else fun _ => .bad)) [1] (iLst (mVar 0))
noncomputable def b_show_rows : Sm Fl := sRet true (mMeth tyStr joinW true (mC (.str "; ")) (mCons (mFz (c_show_rows_1)) (mNil)))
noncomputable def f_show_rows : Fn := fnSem 2 [false] b_show_rows
theorem w_show_rows {f : Addr} {fd : FuncData} (F : Fun K "show_rows" "show_rows" s_show_rows f fd) (g : mg "show_rows" = some (.ref f)) (hb : Binds K fd ["rows"] []) (F_show_row : FnT P w K mg base CA "show_row" 1 2 f_show_row) : FnT P w K mg base CA "show_rows" 1 3 f_show_rows :=
  fnt_body F g hb sc_show_rows rfl rfl rfl fun cdv A outer s H E hr => (mss_one (ms_ret (me_join (p1 := true) (p2 := true) (k1 := true) me_str (ma_cons (p1 := true) (p2 := true) (me_fz (me_lc rfl sc_show_rows.nd (own := [("row", 1)]) (p := true) (pt := true) (pe := true) (mi_list (me_var 0 (pv 0))) (show BlkOk N_show_rows (defScope s_show_rows) _ _ from blkOk_by (own := [("row", 1)]) (by decide +kernel)) (fun _ _ _ _ _ => (mg_name (i := 1) sc_show_rows.nd)) (fun _ _ _ _ _ => mts_nil) (fun _ _ _ _ _ => (me_callP F_show_row (hr.mono (by decide)) blk_takes (ma_cons (p1 := true) (p2 := true) (me_var 1 (pv 1)) ma_nil) (by rfl))))) ma_nil))))
/-! ### show_name -/
abbrev s_show_name : Stmt := topS 19
abbrev N_show_name : List Str := ["name", "part"]
theorem sc_show_name : FnScope N_show_name ["name"] (defScope s_show_name) := ⟨rfl, rfl, rfl, by decide +kernel, rfl, by decide +kernel, by decide +kernel⟩
noncomputable def c_show_name_1 : Sm W := mComp true (tgN 1) (Sm.ret true) (mUn strOfW (mVar 1)) [1] (iSeq (mVar 0))
noncomputable def b_show_name : Sm Fl := sRet true (mMeth tyStr joinW true (mC (.str ".")) (mCons (mFz (c_show_name_1)) (mNil)))
noncomputable def f_show_name : Fn := fnSem 2 [false] b_show_name
theorem w_show_name {f : Addr} {fd : FuncData} (F : Fun K "show_name" "show_name" s_show_name f fd) (g : mg "show_name" = some (.ref f)) (hb : Binds K fd ["name"] []) (m_str : mg "str" = none) : FnT P w K mg base CA "show_name" 1 1 f_show_name :=
  fnt_body F g hb sc_show_name rfl rfl rfl fun cdv A outer s H E hr => (mss_one (ms_ret (me_join (p1 := true) (p2 := true) (k1 := true) me_str (ma_cons (p1 := true) (p2 := true) (me_fz (me_lc rfl sc_show_name.nd (own := [("part", 1)]) (p := true) (pt := true) (pe := true) (mi_seq (me_var 0 (pv 0))) (show BlkOk N_show_name (defScope s_show_name) _ _ from blkOk_by (own := [("part", 1)]) (by decide +kernel)) (fun _ _ _ _ _ => (mg_name (i := 1) sc_show_name.nd)) (fun _ _ _ _ _ => mts_nil) (fun _ _ _ _ _ => (me_strOf m_str (me_var 1 (pv 1)))))) ma_nil))))
/-! ### key_from -/
abbrev s_key_from : Stmt := topS 20
abbrev N_key_from : List Str := ["word", "figures", "sign"]
theorem sc_key_from : FnScope N_key_from ["word"] (defScope s_key_from) := ⟨rfl, rfl, rfl, by decide +kernel, rfl, by decide +kernel, by decide +kernel⟩
noncomputable def c_key_from_1 : Sm W := mComp true (tgN 2) (toB (mBin (inW true) true (mVar 2) (mC (.str "0123456789")))) (mVar 2) [2] (iChr (mVar 1))
noncomputable def b_key_from : Sm Fl := sSeq (sSet 1 false (mVar 0)) (sSeq (sIf (toB (mBin eqW true (mSlice false true (mVar 0) (mNo) (mPart (mC (.int 1)))) (mC (.str "-")))) (sSet 1 true (mSlice false true (mVar 0) (mPart (mC (.int 1))) (mNo))) (sNil)) (sSeq (sIf (mOr (toB (mBin eqW true (mVar 1) (mC (.str "")))) (mOr (toB (mBin gtW true (mUn lenW (mVar 1)) (mC (.int 30)))) (toB (mBin neW true (mFz (c_key_from_1)) (mArgs (lstW false) (mNil)))))) (sRaise 1) (sNil)) (sSeq (sIf (mOr (mAnd (toB (mBin gtW true (mUn lenW (mVar 1)) (mC (.int 1)))) (toB (mBin eqW true (mBin ixW true (mVar 1) (mC (.int 0))) (mC (.str "0"))))) (toB (mBin eqW true (mVar 0) (mC (.str "-0"))))) (sRaise 1) (sNil)) (sRet true (mUn toIntW (mVar 0))))))
noncomputable def f_key_from : Fn := fnSem 3 [false] b_key_from
theorem w_key_from {f : Addr} {fd : FuncData} (F : Fun K "key_from" "key_from" s_key_from f fd) (g : mg "key_from" = some (.ref f)) (hb : Binds K fd ["word"] []) (m_int : mg "int" = none) (m_len : mg "len" = none) {t_FIGURES : Tok} (c_FIGURES : mg "FIGURES" = some (.str "0123456789" t_FIGURES)) {t_MOST_FIGURES : Tok} (c_MOST_FIGURES : mg "MOST_FIGURES" = some (.int 30 t_MOST_FIGURES)) (k_NoText : ClsT K mg CA "NoText" 1) : FnT P w K mg base CA "key_from" 1 1 f_key_from :=
  fnt_body F g hb sc_key_from rfl rfl rfl fun cdv A outer s H E hr => (mss_cons (ms_set (i := 1) sc_key_from.nd (me_var 0 (pv 0))) (mss_cons (ms_if (mt_cmp (p1 := true) (p2 := true) (k1 := true) (op_eqW hr) (me_slice false (p := true) (p1 := true) (p2 := true) (k1 := false) (me_var 0 (pv 0)) mo_no (mo_some me_int)) me_str) (mss_one (ms_set (i := 1) sc_key_from.nd (me_slice false (p := true) (p1 := true) (p2 := true) (k1 := false) (me_var 0 (pv 0)) (mo_some me_int) mo_no))) mss_nil) (mss_cons (ms_if (mt_w (mw_or (p1 := true) (p2 := true) (mt_cmp (p1 := true) (p2 := true) (k1 := false) (op_eqW hr) (me_var 1 (pv 1)) me_str) (mw_or (p1 := true) (p2 := true) (mt_cmp (p1 := true) (p2 := true) (k1 := true) (op_gtW hr) (me_len m_len (me_var 1 (pv 1))) (me_globI (by rfl) (c_MOST_FIGURES))) (mw_or1 (mt_cmp (p1 := true) (p2 := true) (k1 := true) (op_neW hr) (me_fz (me_lc rfl sc_key_from.nd (own := [("sign", 2)]) (p := true) (pt := true) (pe := true) (mi_chr (me_var 1 (pv 1))) (show BlkOk N_key_from (defScope s_key_from) _ _ from blkOk_by (own := [("sign", 2)]) (by decide +kernel)) (fun _ _ _ _ _ => (mg_name (i := 2) sc_key_from.nd)) (fun _ _ _ _ _ => (mts_one (mt_cmp (p1 := true) (p2 := true) (k1 := false) (op_notInW hr) (me_var 2 (pv 2)) (me_globS (by rfl) (c_FIGURES))))) (fun _ _ _ _ _ => (me_var 2 (pv 2))))) (me_lst false ma_nil)))))) (mss_one (ms_raise k_NoText rfl zf_takes (by rfl))) mss_nil) (mss_cons (ms_if (mt_w (mw_or (p1 := true) (p2 := true) (mt_w (mw_and (p1 := true) (p2 := true) (mt_cmp (p1 := true) (p2 := true) (k1 := true) (op_gtW hr) (me_len m_len (me_var 1 (pv 1))) me_int) (mw_and1 (mt_cmp (p1 := true) (p2 := true) (k1 := true) (op_eqW hr) (me_ix (p1 := true) (p2 := true) (k1 := false) (me_var 1 (pv 1)) me_int) me_str)))) (mw_or1 (mt_cmp (p1 := true) (p2 := true) (k1 := false) (op_eqW hr) (me_var 0 (pv 0)) me_str)))) (mss_one (ms_raise k_NoText rfl zf_takes (by rfl))) mss_nil) (mss_one (ms_ret (me_intOf rfl m_int (me_var 0 (pv 0)))))))))
/-! ### thing_from -/
abbrev s_thing_from : Stmt := topS 21
abbrev N_thing_from : List Str := ["word", "key", "mark", "tag"]
theorem sc_thing_from : FnScope N_thing_from ["word"] (defScope s_thing_from) := ⟨rfl, rfl, rfl, by decide +kernel, rfl, by decide +kernel, by decide +kernel⟩
noncomputable def b_thing_from : Sm Fl := sSeq (sAsg (tgT [1, 2, 3]) (mMeth tyStr partW true (mVar 0) (mCons (mC (.str ":")) (mNil)))) (sRet true (mArgs tupW (mCons (mCallP f_key_from (Sm.bind (mCons (mVar 1) (mNil)) fun ws => if ws.length = 1 then Sm.ret ws else fun _ => .bad)) (mCons (mVar 3) (mNil)))))
noncomputable def f_thing_from : Fn := fnSem 4 [false] b_thing_from
theorem w_thing_from {f : Addr} {fd : FuncData} (F : Fun K "thing_from" "thing_from" s_thing_from f fd) (g : mg "thing_from" = some (.ref f)) (hb : Binds K fd ["word"] []) (F_key_from : FnT P w K mg base CA "key_from" 1 1 f_key_from) : FnT P w K mg base CA "thing_from" 1 2 f_thing_from :=
  fnt_body F g hb sc_thing_from rfl rfl rfl fun cdv A outer s H E hr => (mss_cons (ms_asg (me_part (p1 := true) (p2 := true) (k1 := false) (me_var 0 (pv 0)) (ma_cons (p1 := true) (p2 := true) me_str ma_nil)) (mg_tup rfl (mgs_cons (i := 1) sc_thing_from.nd (mgs_cons (i := 2) sc_thing_from.nd (mgs_cons (i := 3) sc_thing_from.nd mgs_nil))))) (mss_one (ms_ret (me_tup (ma_cons (p1 := true) (p2 := true) (me_callP F_key_from (hr.mono (by decide)) zf_takes (ma_cons (p1 := true) (p2 := true) (me_var 1 (pv 1)) ma_nil) (by rfl)) (ma_cons (p1 := true) (p2 := true) (me_var 3 (pv 3)) ma_nil))))))
/-! ### row_from -/
abbrev s_row_from : Stmt := topS 22
abbrev N_row_from : List Str := ["text", "word"]
theorem sc_row_from : FnScope N_row_from ["text"] (defScope s_row_from) := ⟨rfl, rfl, rfl, by decide +kernel, rfl, by decide +kernel, by decide +kernel⟩
noncomputable def c_row_from_1 : Sm W := mComp true (tgN 1) (Sm.ret true) (mCallP f_thing_from (Sm.bind (mCons (mVar 1) (mNil)) fun ws => if ws.length = 1 then Sm.ret ws else fun _ => .bad)) [1] (iLst (mMeth tyStr (split1W false) true (mVar 0) (mCons (mC (.str ", ")) (mNil))))
noncomputable def b_row_from : Sm Fl := sSeq (sIf (toB (mBin eqW true (mVar 0) (mC (.str "-")))) (sRet true (mArgs (lstW true) (mNil))) (sNil)) (sRet true (c_row_from_1))
noncomputable def f_row_from : Fn := fnSem 2 [false] b_row_from
theorem w_row_from {f : Addr} {fd : FuncData} (F : Fun K "row_from" "row_from" s_row_from f fd) (g : mg "row_from" = some (.ref f)) (hb : Binds K fd ["text"] []) (F_thing_from : FnT P w K mg base CA "thing_from" 1 2 f_thing_from) : FnT P w K mg base CA "row_from" 1 3 f_row_from :=
  fnt_body F g hb sc_row_from rfl rfl rfl fun cdv A outer s H E hr => (mss_cons (ms_if (mt_cmp (p1 := true) (p2 := true) (k1 := false) (op_eqW hr) (me_var 0 (pv 0)) me_str) (mss_one (ms_ret (me_lst true ma_nil))) mss_nil) (mss_one (ms_ret (me_lc rfl sc_row_from.nd (own := [("word", 1)]) (p := true) (pt := true) (pe := true) (mi_list (me_split false (p1 := true) (p2 := true) (k1 := false) (me_var 0 (pv 0)) (ma_cons (p1 := true) (p2 := true) me_str ma_nil))) (show BlkOk N_row_from (defScope s_row_from) _ _ from blkOk_by (own := [("word", 1)]) (by decide +kernel)) (fun _ _ _ _ _ => (mg_name (i := 1) sc_row_from.nd)) (fun _ _ _ _ _ => mts_nil) (fun _ _ _ _ _ => (me_callP F_thing_from (hr.mono (by decide)) blk_takes (ma_cons (p1 := true) (p2 := true) (me_var 1 (pv 1)) ma_nil) (by rfl)))))))
/-! ### read_rows -/
abbrev s_read_rows : Stmt := topS 23
abbrev N_read_rows : List Str := ["text", "rows", "part"]
theorem sc_read_rows : FnScope N_read_rows ["text"] (defScope s_read_rows) := ⟨rfl, rfl, rfl, by decide +kernel, rfl, by decide +kernel, by decide +kernel⟩
noncomputable def c_read_rows_1 : Sm W := mCompN (tgN 2) (Sm.ret true) (mCallP f_row_from (Sm.bind (mCons (mVar 2) (mNil)) fun ws => if ws.length = 1 then Sm.ret ws else fun _ => .bad)) [2] (iLst (mMeth tyStr (split1W false) true (mVar 0) (mCons (mC (.str "; ")) (mNil))))
noncomputable def b_read_rows : Sm Fl := sSeq (sIf (mNot (toB (mUn (isiW ["str"]) (mVar 0)))) (sRaise 1) (sNil)) (sSeq (sSet 1 true (c_read_rows_1)) (sSeq (sIf (mNot (toB (mLendE 1 (mCallP f_are_rows (Sm.bind (mCons (mVar 1) (mNil)) fun ws => if ws.length = 1 then Sm.ret ws else fun _ => .bad))))) (sRaise 1) (sNil)) (sRet true (mMove 1))))
noncomputable def f_read_rows : Fn := fnSem 3 [false] b_read_rows
theorem w_read_rows {f : Addr} {fd : FuncData} (F : Fun K "read_rows" "read_rows" s_read_rows f fd) (g : mg "read_rows" = some (.ref f)) (hb : Binds K fd ["text"] []) (m_isinstance : mg "isinstance" = none) (m_str : mg "str" = none) (k_NoText : ClsT K mg CA "NoText" 1) (F_are_rows : FnT P w K mg base CA "are_rows" 1 4 f_are_rows) (F_row_from : FnT P w K mg base CA "row_from" 1 3 f_row_from) : FnT P w K mg base CA "read_rows" 1 5 f_read_rows :=
  fnt_body F g hb sc_read_rows rfl rfl rfl fun cdv A outer s H E hr => (mss_cons (ms_if (mt_not (mt_val (me_isi ["str"] (ca_ty (by rfl) m_str PyProof.Rows.boot_str) m_isinstance (me_var 0 (pv 0))))) (mss_one (ms_raise k_NoText rfl zf_takes (by rfl))) mss_nil) (mss_cons (ms_setLcN (i := 1) rfl sc_read_rows.nd (own := [("part", 2)]) (mi_list (me_split false (p1 := true) (p2 := true) (k1 := false) (me_var 0 (pv 0)) (ma_cons (p1 := true) (p2 := true) me_str ma_nil))) (show BlkOk N_read_rows (defScope s_read_rows) _ _ from blkOk_by (own := [("part", 2)]) (by decide +kernel)) (fun _ _ _ _ _ => (mg_name (i := 2) sc_read_rows.nd)) (fun _ _ _ _ _ => mts_nil) (fun _ _ _ _ _ => (me_callP F_row_from (hr.mono (by decide)) blk_takes (ma_cons (p1 := true) (p2 := true) (me_var 2 (pv 2)) ma_nil) (by rfl)))) (mss_cons (ms_if (mt_not (mt_val (me_lendE 1 (me_callP F_are_rows (hr.mono (by decide)) zf_takes (ma_cons (p1 := true) (p2 := true) (me_var 1 (pv 1)) ma_nil) (by rfl))))) (mss_one (ms_raise k_NoText rfl zf_takes (by rfl))) mss_nil) (mss_one (ms_ret (me_move 1 (pv 1) rfl))))))
/-! ### _law_cell_at -/
abbrev s__law_cell_at : Stmt := topS 25
abbrev N__law_cell_at : List Str := ["script", "k"]
theorem sc__law_cell_at : FnScope N__law_cell_at ["script", "k"] (defScope s__law_cell_at) := ⟨rfl, rfl, rfl, by decide +kernel, rfl, by decide +kernel, by decide +kernel⟩
noncomputable def b__law_cell_at : Sm Fl := sSeq (sIf (toB (mBin ltW true (mVar 1) (mUn lenW (mVar 0)))) (sRet true (mBin ixW true (mVar 0) (mVar 1))) (sNil)) (sRet true (mC (.int 0)))
noncomputable def f__law_cell_at : Fn := fnSem 2 [false, false] b__law_cell_at
theorem w__law_cell_at {f : Addr} {fd : FuncData} (F : Fun K "_law_cell_at" "_law_cell_at" s__law_cell_at f fd) (g : mg "_law_cell_at" = some (.ref f)) (hb : Binds K fd ["script", "k"] []) (m_len : mg "len" = none) : FnT P w K mg base CA "_law_cell_at" 2 1 f__law_cell_at :=
  fnt_body F g hb sc__law_cell_at rfl rfl rfl fun cdv A outer s H E hr => (mss_cons (ms_if (mt_cmp (p1 := true) (p2 := true) (k1 := false) (op_ltW hr) (me_var 1 (pv 1)) (me_len m_len (me_var 0 (pv 0)))) (mss_one (ms_ret (me_ix (p1 := true) (p2 := true) (k1 := false) (me_var 0 (pv 0)) (me_var 1 (pv 1))))) mss_nil) (mss_one (ms_ret me_int)))
/-! ### _law_numbers -/
abbrev s__law_numbers : Stmt := topS 26
abbrev N__law_numbers : List Str := ["cell", "many", "found", "rest", "stir", "k", "again"]
theorem sc__law_numbers : FnScope N__law_numbers ["cell", "many"] (defScope s__law_numbers) := ⟨rfl, rfl, rfl, by decide +kernel, rfl, by decide +kernel, by decide +kernel⟩
noncomputable def b__law_numbers_1 : Sm Fl := sIf (mAnd (toB (mBin geXW true (mVar 0) (mBin powW true (mC (.int 10)) (mC (.int 18))))) (toB (mBin gtW true (mVar 3) (mC (.int 0))))) (sSeq (sDrop (mMut 2 fAppend (mCons (mBin modW true (mVar 3) (mC (.int 64))) (mNil)))) (sSet 3 true (mBin fdivW true (mVar 3) (mC (.int 64))))) (sSeq (sSet 4 true (mBin modW true (mBin (mulW false) true (mBin (addW false) true (mBin (addW false) true (mVar 4) (mBin (mulW false) true (mC (.int 7)) (mVar 5))) (mC (.int 3))) (mC (.int 48271))) (mC (.int 2147483647)))) (sSeq (sSet 6 true (mBin modW true (mBin (mulW false) true (mBin modW true (mBin (mulW false) true (mVar 4) (mVar 4)) (mC (.int 2147483629))) (mC (.int 69621))) (mC (.int 2147483587)))) (sDrop (mMut 2 fAppend (mCons (mBin modW true (mBin fdivW true (mVar 6) (mC (.int 8))) (mC (.int 720720))) (mNil))))))
noncomputable def b__law_numbers : Sm Fl := sSeq (sSet 2 true (mArgs (lstW true) (mNil))) (sSeq (sSet 3 false (mVar 0)) (sSeq (sSet 4 true (mBin modW true (mVar 0) (mC (.int 2147483647)))) (sSeq (sFor (tgN 5) b__law_numbers_1 [5, 6] (iArgs rng1 (mCons (mVar 1) (mNil)))) (sRet true (mMove 2)))))
noncomputable def f__law_numbers : Fn := fnSem 7 [false, false] b__law_numbers
theorem w__law_numbers {f : Addr} {fd : FuncData} (F : Fun K "_law_numbers" "_law_numbers" s__law_numbers f fd) (g : mg "_law_numbers" = some (.ref f)) (hb : Binds K fd ["cell", "many"] []) (m_range : mg "range" = none) : FnT P w K mg base CA "_law_numbers" 2 1 f__law_numbers :=
  fnt_body F g hb sc__law_numbers rfl rfl rfl fun cdv A outer s H E hr => (mss_cons (ms_set (i := 2) sc__law_numbers.nd (me_lst true ma_nil)) (mss_cons (ms_set (i := 3) sc__law_numbers.nd (me_var 0 (pv 0))) (mss_cons (ms_set (i := 4) sc__law_numbers.nd (me_op (p1 := true) (p2 := true) (k1 := false) op_modW (me_var 0 (pv 0)) me_int)) (mss_cons (ms_for [5, 6] zf_pass rfl (mi_range1 m_range (ma_cons (p1 := true) (p2 := true) (me_var 1 (pv 1)) ma_nil)) (mg_name (i := 5) sc__law_numbers.nd) (mss_one (ms_if (mt_w (mw_and (p1 := true) (p2 := true) (mt_cmp (p1 := true) (p2 := true) (k1 := false) (op_geXW hr) (me_var 0 (pv 0)) (me_op (p1 := true) (p2 := true) (k1 := true) op_powW me_int me_int)) (mw_and1 (mt_cmp (p1 := true) (p2 := true) (k1 := false) (op_gtW hr) (me_var 3 (pv 3)) me_int)))) (mss_cons (ms_expr (me_append (pv 2) (ma_cons (p1 := true) (p2 := true) (me_op (p1 := true) (p2 := true) (k1 := false) op_modW (me_var 3 (pv 3)) me_int) ma_nil))) (mss_one (ms_set (i := 3) sc__law_numbers.nd (me_op (p1 := true) (p2 := true) (k1 := false) op_fdivW' (me_var 3 (pv 3)) me_int)))) (mss_cons (ms_set (i := 4) sc__law_numbers.nd (me_op (p1 := true) (p2 := true) (k1 := true) op_modW (me_op (p1 := true) (p2 := true) (k1 := true) op_mulW (me_op (p1 := true) (p2 := true) (k1 := true) op_addW (me_op (p1 := true) (p2 := true) (k1 := false) op_addW (me_var 4 (pv 4)) (me_op (p1 := true) (p2 := true) (k1 := true) op_mulW me_int (me_var 5 (pv 5)))) me_int) me_int) me_int)) (mss_cons (ms_set (i := 6) sc__law_numbers.nd (me_op (p1 := true) (p2 := true) (k1 := true) op_modW (me_op (p1 := true) (p2 := true) (k1 := true) op_mulW (me_op (p1 := true) (p2 := true) (k1 := true) op_modW (me_op (p1 := true) (p2 := true) (k1 := false) op_mulW (me_var 4 (pv 4)) (me_var 4 (pv 4))) me_int) me_int) me_int)) (mss_one (ms_expr (me_append (pv 2) (ma_cons (p1 := true) (p2 := true) (me_op (p1 := true) (p2 := true) (k1 := true) op_modW (me_op (p1 := true) (p2 := true) (k1 := false) op_fdivW' (me_var 6 (pv 6)) me_int) me_int) ma_nil))))))))) (mss_one (ms_ret (me_move 2 (pv 2) rfl)))))))
/-! ### _law_deck -/
abbrev s__law_deck : Stmt := topS 27
abbrev N__law_deck : List Str := ["cell", "many"]
theorem sc__law_deck : FnScope N__law_deck ["cell", "many"] (defScope s__law_deck) := ⟨rfl, rfl, rfl, by decide +kernel, rfl, by decide +kernel, by decide +kernel⟩
noncomputable def b__law_deck : Sm Fl := sRet true (mUn (revW true) (mCallP f__law_numbers (Sm.bind (mCons (mVar 0) (mCons (mVar 1) (mNil))) fun ws => if ws.length = 2 then Sm.ret ws else fun _ => .bad)))
noncomputable def f__law_deck : Fn := fnSem 2 [false, false] b__law_deck
theorem w__law_deck {f : Addr} {fd : FuncData} (F : Fun K "_law_deck" "_law_deck" s__law_deck f fd) (g : mg "_law_deck" = some (.ref f)) (hb : Binds K fd ["cell", "many"] []) (F__law_numbers : FnT P w K mg base CA "_law_numbers" 2 1 f__law_numbers) : FnT P w K mg base CA "_law_deck" 2 2 f__law_deck :=
  fnt_body F g hb sc__law_deck rfl rfl rfl fun cdv A outer s H E hr => (mss_one (ms_ret (me_rev true (me_callP F__law_numbers (hr.mono (by decide)) zf_takes (ma_cons (p1 := true) (p2 := true) (me_var 0 (pv 0)) (ma_cons (p1 := true) (p2 := true) (me_var 1 (pv 1)) ma_nil)) (by rfl)))))
/-! ### _law_take -/
abbrev s__law_take : Stmt := topS 28
abbrev N__law_take : List Str := ["deck", "many"]
theorem sc__law_take : FnScope N__law_take ["deck", "many"] (defScope s__law_take) := ⟨rfl, rfl, rfl, by decide +kernel, rfl, by decide +kernel, by decide +kernel⟩
noncomputable def b__law_take : Sm Fl := sSeq (sIf (toB (mBin eqW true (mVar 0) (mArgs (lstW false) (mNil)))) (sRet true (mC (.int 0))) (sNil)) (sRet true (mBin modW true (mMut 0 fPop mNil) (mVar 1)))
noncomputable def f__law_take : Fn := fnSem 2 [true, false] b__law_take
theorem w__law_take {f : Addr} {fd : FuncData} (F : Fun K "_law_take" "_law_take" s__law_take f fd) (g : mg "_law_take" = some (.ref f)) (hb : Binds K fd ["deck", "many"] []) : FnT P w K mg base CA "_law_take" 2 1 f__law_take :=
  fnt_body F g hb sc__law_take rfl rfl rfl fun cdv A outer s H E hr => (mss_cons (ms_if (mt_cmp (p1 := true) (p2 := true) (k1 := false) (op_eqW hr) (me_var 0 (pv 0)) (me_lst false ma_nil)) (mss_one (ms_ret me_int)) mss_nil) (mss_one (ms_ret (me_op (p1 := false) (p2 := true) (k1 := true) op_modW (me_pop (pv 0)) (me_var 1 (pv 1))))))
/-! ### _law_key -/
abbrev s__law_key : Stmt := topS 29
abbrev N__law_key : List Str := ["deck", "way", "number", "far"]
theorem sc__law_key : FnScope N__law_key ["deck"] (defScope s__law_key) := ⟨rfl, rfl, rfl, by decide +kernel, rfl, by decide +kernel, by decide +kernel⟩
noncomputable def b__law_key : Sm Fl := sSeq (sSet 1 true (mCall f__law_take 2 (Sm.bind (mVar 0) fun _ => rIo 0 (rVal (mC (.int 8)) (rNil))))) (sSeq (sSet 2 true (mCall f__law_take 2 (Sm.bind (mVar 0) fun _ => rIo 0 (rVal (mC (.int 64)) (rNil))))) (sSeq (sIf (toB (mBin ltW true (mVar 1) (mC (.int 4)))) (sRet true (mBin modW true (mVar 2) (mC (.int 6)))) (sNil)) (sSeq (sIf (toB (mBin eqW true (mVar 1) (mC (.int 4)))) (sRet true (mBin subW true (mC (.int 0)) (mBin modW true (mVar 2) (mC (.int 6))))) (sNil)) (sSeq (sIf (toB (mBin eqW true (mVar 1) (mC (.int 5)))) (sRet true (mBin subW true (mBin (mulW true) true (mVar 2) (mC (.int 1009))) (mC (.int 30000)))) (sNil)) (sSeq (sSet 3 true (mBin (addW false) true (mBin (mulW false) true (mBin powW true (mC (.int 10)) (mC (.int 29))) (mBin (addW false) true (mC (.int 1)) (mBin modW true (mVar 2) (mC (.int 9))))) (mBin (mulW false) true (mVar 2) (mC (.int 7919))))) (sRet true (mBin ixW true (mArgs (lstW true) (mCons (mVar 3) (mCons (mBin subW true (mC (.int 0)) (mVar 3)) (mNil)))) (mBin subW true (mVar 1) (mC (.int 6))))))))))
noncomputable def f__law_key : Fn := fnSem 4 [true] b__law_key
theorem w__law_key {f : Addr} {fd : FuncData} (F : Fun K "_law_key" "_law_key" s__law_key f fd) (g : mg "_law_key" = some (.ref f)) (hb : Binds K fd ["deck"] []) (F__law_take : FnT P w K mg base CA "_law_take" 2 1 f__law_take) : FnT P w K mg base CA "_law_key" 1 2 f__law_key :=
  fnt_body F g hb sc__law_key rfl rfl rfl fun cdv A outer s H E hr => (mss_cons (ms_set (i := 1) sc__law_key.nd (me_call F__law_take (hr.mono (by decide)) zf_takes (mr_io 0 (pv 0) (mr_val (p1 := true) (p2 := true) me_int mr_nil)) (by rfl))) (mss_cons (ms_set (i := 2) sc__law_key.nd (me_call F__law_take (hr.mono (by decide)) zf_takes (mr_io 0 (pv 0) (mr_val (p1 := true) (p2 := true) me_int mr_nil)) (by rfl))) (mss_cons (ms_if (mt_cmp (p1 := true) (p2 := true) (k1 := false) (op_ltW hr) (me_var 1 (pv 1)) me_int) (mss_one (ms_ret (me_op (p1 := true) (p2 := true) (k1 := false) op_modW (me_var 2 (pv 2)) me_int))) mss_nil) (mss_cons (ms_if (mt_cmp (p1 := true) (p2 := true) (k1 := false) (op_eqW hr) (me_var 1 (pv 1)) me_int) (mss_one (ms_ret (me_op (p1 := true) (p2 := true) (k1 := true) op_subW me_int (me_op (p1 := true) (p2 := true) (k1 := false) op_modW (me_var 2 (pv 2)) me_int)))) mss_nil) (mss_cons (ms_if (mt_cmp (p1 := true) (p2 := true) (k1 := false) (op_eqW hr) (me_var 1 (pv 1)) me_int) (mss_one (ms_ret (me_op (p1 := true) (p2 := true) (k1 := true) op_subW (me_op (p1 := true) (p2 := true) (k1 := false) op_mulW (me_var 2 (pv 2)) me_int) me_int))) mss_nil) (mss_cons (ms_set (i := 3) sc__law_key.nd (me_op (p1 := true) (p2 := true) (k1 := true) op_addW (me_op (p1 := true) (p2 := true) (k1 := true) op_mulW (me_op (p1 := true) (p2 := true) (k1 := true) op_powW me_int me_int) (me_op (p1 := true) (p2 := true) (k1 := true) op_addW me_int (me_op (p1 := true) (p2 := true) (k1 := false) op_modW (me_var 2 (pv 2)) me_int))) (me_op (p1 := true) (p2 := true) (k1 := false) op_mulW (me_var 2 (pv 2)) me_int))) (mss_one (ms_ret (me_ix (p1 := true) (p2 := true) (k1 := true) (me_lst true (ma_cons (p1 := true) (p2 := true) (me_var 3 (pv 3)) (ma_cons (p1 := true) (p2 := true) (me_op (p1 := true) (p2 := true) (k1 := true) op_subW me_int (me_var 3 (pv 3))) ma_nil))) (me_op (p1 := true) (p2 := true) (k1 := false) op_subW (me_var 1 (pv 1)) me_int))))))))))
/-! ### _law_tag -/
abbrev s__law_tag : Stmt := topS 30
abbrev N__law_tag : List Str := ["deck", "number", "letters", "size", "j"]
theorem sc__law_tag : FnScope N__law_tag ["deck"] (defScope s__law_tag) := ⟨rfl, rfl, rfl, by decide +kernel, rfl, by decide +kernel, by decide +kernel⟩
noncomputable def c__law_tag_1 : Sm W := mComp true (tgN 4) (Sm.ret true) (mBin ixW true (mVar 2) (mBin modW true (mBin (addW false) true (mBin fdivW true (mVar 1) (mC (.int 2))) (mBin (mulW false) true (mVar 4) (mBin (addW false) true (mBin fdivW true (mVar 1) (mC (.int 16))) (mVar 4)))) (mC (.int 26)))) [4] (iArgs rng1 (mCons (mVar 3) (mNil)))
noncomputable def b__law_tag : Sm Fl := sSeq (sSet 1 true (mCall f__law_take 2 (Sm.bind (mVar 0) fun _ => rIo 0 (rVal (mC (.int 720720)) (rNil))))) (sSeq (sIf (toB (mBin eqW true (mBin modW true (mVar 1) (mC (.int 2))) (mC (.int 0)))) (sRet true (mBin ixW true (mArgs (lstW true) (mCons (mC (.str "a")) (mCons (mC (.str "b")) (mCons (mC (.str "ab")) (mCons (mC (.str "zzzzzzzz")) (mCons (mC (.str "x")) (mNil))))))) (mBin modW true (mBin fdivW true (mVar 1) (mC (.int 2))) (mC (.int 5))))) (sNil)) (sSeq (sSet 2 true (mC (.str "abcdefghijklmnopqrstuvwxyz"))) (sSeq (sSet 3 true (mBin (addW false) true (mC (.int 1)) (mBin modW true (mBin fdivW true (mVar 1) (mC (.int 4))) (mC (.int 8))))) (sRet true (mMeth tyStr joinW true (mC (.str "")) (mCons (mFz (c__law_tag_1)) (mNil)))))))
noncomputable def f__law_tag : Fn := fnSem 5 [true] b__law_tag
theorem w__law_tag {f : Addr} {fd : FuncData} (F : Fun K "_law_tag" "_law_tag" s__law_tag f fd) (g : mg "_law_tag" = some (.ref f)) (hb : Binds K fd ["deck"] []) (m_range : mg "range" = none) (F__law_take : FnT P w K mg base CA "_law_take" 2 1 f__law_take) : FnT P w K mg base CA "_law_tag" 1 2 f__law_tag :=
  fnt_body F g hb sc__law_tag rfl rfl rfl fun cdv A outer s H E hr => (mss_cons (ms_set (i := 1) sc__law_tag.nd (me_call F__law_take (hr.mono (by decide)) zf_takes (mr_io 0 (pv 0) (mr_val (p1 := true) (p2 := true) me_int mr_nil)) (by rfl))) (mss_cons (ms_if (mt_cmp (p1 := true) (p2 := true) (k1 := true) (op_eqW hr) (me_op (p1 := true) (p2 := true) (k1 := false) op_modW (me_var 1 (pv 1)) me_int) me_int) (mss_one (ms_ret (me_ix (p1 := true) (p2 := true) (k1 := true) (me_lst true (ma_cons (p1 := true) (p2 := true) me_str (ma_cons (p1 := true) (p2 := true) me_str (ma_cons (p1 := true) (p2 := true) me_str (ma_cons (p1 := true) (p2 := true) me_str (ma_cons (p1 := true) (p2 := true) me_str ma_nil)))))) (me_op (p1 := true) (p2 := true) (k1 := true) op_modW (me_op (p1 := true) (p2 := true) (k1 := false) op_fdivW' (me_var 1 (pv 1)) me_int) me_int)))) mss_nil) (mss_cons (ms_set (i := 2) sc__law_tag.nd me_str) (mss_cons (ms_set (i := 3) sc__law_tag.nd (me_op (p1 := true) (p2 := true) (k1 := true) op_addW me_int (me_op (p1 := true) (p2 := true) (k1 := true) op_modW (me_op (p1 := true) (p2 := true) (k1 := false) op_fdivW' (me_var 1 (pv 1)) me_int) me_int))) (mss_one (ms_ret (me_join (p1 := true) (p2 := true) (k1 := true) me_str (ma_cons (p1 := true) (p2 := true) (me_fz (me_lc rfl sc__law_tag.nd (own := [("j", 4)]) (p := true) (pt := true) (pe := true) (mi_range1 m_range (ma_cons (p1 := true) (p2 := true) (me_var 3 (pv 3)) ma_nil)) (show BlkOk N__law_tag (defScope s__law_tag) _ _ from blkOk_by (own := [("j", 4)]) (by decide +kernel)) (fun _ _ _ _ _ => (mg_name (i := 4) sc__law_tag.nd)) (fun _ _ _ _ _ => mts_nil) (fun _ _ _ _ _ => (me_ix (p1 := true) (p2 := true) (k1 := false) (me_var 2 (pv 2)) (me_op (p1 := true) (p2 := true) (k1 := true) op_modW (me_op (p1 := true) (p2 := true) (k1 := true) op_addW (me_op (p1 := true) (p2 := true) (k1 := false) op_fdivW' (me_var 1 (pv 1)) me_int) (me_op (p1 := true) (p2 := true) (k1 := false) op_mulW (me_var 4 (pv 4)) (me_op (p1 := true) (p2 := true) (k1 := true) op_addW (me_op (p1 := true) (p2 := true) (k1 := false) op_fdivW' (me_var 1 (pv 1)) me_int) (me_var 4 (pv 4))))) me_int))))) ma_nil))))))))
/-! ### _law_rows -/
abbrev s__law_rows : Stmt := topS 31
abbrev N__law_rows : List Str := ["deck", "most", "rows", "hand", "many", "keys", "k", "way", "key"]
theorem sc__law_rows : FnScope N__law_rows ["deck", "most"] (defScope s__law_rows) := ⟨rfl, rfl, rfl, by decide +kernel, rfl, by decide +kernel, by decide +kernel⟩
noncomputable def c__law_rows_1 : Sm W := mComp false (tgN 6) (Sm.ret true) (mCall f__law_key 1 (Sm.bind (mVar 0) fun _ => rIo 0 (rNil))) [6] (iArgs rng1 (mCons (mVar 4) (mNil)))
noncomputable def c__law_rows_2 : Sm W := mComp false (tgN 8) (Sm.ret true) (mArgs tupW (mCons (mVar 8) (mCons (mCall f__law_tag 1 (Sm.bind (mVar 0) fun _ => rIo 0 (rNil))) (mNil)))) [8] (iLst (mVar 5))
noncomputable def b__law_rows_1 : Sm Fl := sSeq (sSet 4 true (mCall f__law_take 2 (Sm.bind (mVar 0) fun _ => rIo 0 (rVal (mBin ixW true (mArgs (lstW false) (mCons (mC (.int 1)) (mCons (mBin (addW false) true (mVar 1) (mC (.int 1))) (mCons (mC (.int 4)) (mCons (mBin (addW false) true (mVar 1) (mC (.int 1))) (mNil)))))) (mCall f__law_take 2 (Sm.bind (mVar 0) fun _ => rIo 0 (rVal (mC (.int 4)) (rNil))))) (rNil))))) (sSeq (sSet 5 true (mFz (c__law_rows_1))) (sSeq (sSet 7 true (mCall f__law_take 2 (Sm.bind (mVar 0) fun _ => rIo 0 (rVal (mC (.int 4)) (rNil))))) (sSeq (sIf (toB (mBin eqW true (mVar 7) (mC (.int 1)))) (sSet 5 true (mUn (sortedW false) (mVar 5))) (sNil)) (sSeq (sIf (toB (mBin eqW true (mVar 7) (mC (.int 2)))) (sSet 5 true (mBin (mulW false) true (mSlice false true (mVar 5) (mNo) (mPart (mC (.int 1)))) (mVar 4))) (sNil)) (sDrop (mMut 2 fAppend (mCons (mFz (c__law_rows_2)) (mNil))))))))
noncomputable def b__law_rows : Sm Fl := sSeq (sSet 2 true (mArgs (lstW true) (mNil))) (sSeq (sFor (tgN 3) b__law_rows_1 [3, 4, 5, 7] (iArgs rng1 (mCons (mBin (addW false) true (mC (.int 1)) (mCall f__law_take 2 (Sm.bind (mVar 0) fun _ => rIo 0 (rVal (mC (.int 6)) (rNil))))) (mNil)))) (sRet true (mMove 2)))
noncomputable def f__law_rows : Fn := fnSem 9 [true, false] b__law_rows
theorem w__law_rows {f : Addr} {fd : FuncData} (F : Fun K "_law_rows" "_law_rows" s__law_rows f fd) (g : mg "_law_rows" = some (.ref f)) (hb : Binds K fd ["deck", "most"] []) (m_range : mg "range" = none) (m_sorted : mg "sorted" = none) (F__law_take : FnT P w K mg base CA "_law_take" 2 1 f__law_take) (F__law_key : FnT P w K mg base CA "_law_key" 1 2 f__law_key) (F__law_tag : FnT P w K mg base CA "_law_tag" 1 2 f__law_tag) : FnT P w K mg base CA "_law_rows" 2 3 f__law_rows :=
  fnt_body F g hb sc__law_rows rfl rfl rfl fun cdv A outer s H E hr => (mss_cons (ms_set (i := 2) sc__law_rows.nd (me_lst true ma_nil)) (mss_cons (ms_for [3, 4, 5, 7] zf_pass rfl (mi_range1 m_range (ma_cons (p1 := false) (p2 := true) (me_op (p1 := true) (p2 := false) (k1 := true) op_addW me_int (me_call F__law_take (hr.mono (by decide)) zf_takes (mr_io 0 (pv 0) (mr_val (p1 := true) (p2 := true) me_int mr_nil)) (by rfl))) ma_nil)) (mg_name (i := 3) sc__law_rows.nd) (mss_cons (ms_set (i := 4) sc__law_rows.nd (me_call F__law_take (hr.mono (by decide)) zf_takes (mr_io 0 (pv 0) (mr_val (p1 := false) (p2 := true) (me_ix (p1 := true) (p2 := false) (k1 := true) (me_lst false (ma_cons (p1 := true) (p2 := true) me_int (ma_cons (p1 := true) (p2 := true) (me_op (p1 := true) (p2 := true) (k1 := false) op_addW (me_var 1 (pv 1)) me_int) (ma_cons (p1 := true) (p2 := true) me_int (ma_cons (p1 := true) (p2 := true) (me_op (p1 := true) (p2 := true) (k1 := false) op_addW (me_var 1 (pv 1)) me_int) ma_nil))))) (me_call F__law_take (hr.mono (by decide)) zf_takes (mr_io 0 (pv 0) (mr_val (p1 := true) (p2 := true) me_int mr_nil)) (by rfl))) mr_nil)) (by rfl))) (mss_cons (ms_setLc (i := 5) false rfl sc__law_rows.nd (own := [("k", 6)]) (p := true) (pt := true) (pe := false) (mi_range1 m_range (ma_cons (p1 := true) (p2 := true) (me_var 4 (pv 4)) ma_nil)) (show BlkOk N__law_rows (defScope s__law_rows) _ _ from blkOk_by (own := [("k", 6)]) (by decide +kernel)) (fun _ _ _ _ _ => (mg_name (i := 6) sc__law_rows.nd)) (fun _ _ _ _ _ => mts_nil) (fun _ _ _ _ _ => (me_call F__law_key (hr.mono (by decide)) blk_takes (mr_io 0 (pv 0) mr_nil) (by rfl)))) (mss_cons (ms_set (i := 7) sc__law_rows.nd (me_call F__law_take (hr.mono (by decide)) zf_takes (mr_io 0 (pv 0) (mr_val (p1 := true) (p2 := true) me_int mr_nil)) (by rfl))) (mss_cons (ms_if (mt_cmp (p1 := true) (p2 := true) (k1 := false) (op_eqW hr) (me_var 7 (pv 7)) me_int) (mss_one (ms_set (i := 5) sc__law_rows.nd (me_sorted false hr m_sorted (me_var 5 (pv 5))))) mss_nil) (mss_cons (ms_if (mt_cmp (p1 := true) (p2 := true) (k1 := false) (op_eqW hr) (me_var 7 (pv 7)) me_int) (mss_one (ms_set (i := 5) sc__law_rows.nd (me_op (p1 := true) (p2 := true) (k1 := true) op_mulW (me_slice false (p := true) (p1 := true) (p2 := true) (k1 := false) (me_var 5 (pv 5)) mo_no (mo_some me_int)) (me_var 4 (pv 4))))) mss_nil) (mss_one (ms_expr (me_append (pv 2) (ma_cons (p1 := false) (p2 := true) (me_fz (me_lc rfl sc__law_rows.nd (own := [("key", 8)]) (p := true) (pt := true) (pe := false) (mi_list (me_var 5 (pv 5))) (show BlkOk N__law_rows (defScope s__law_rows) _ _ from blkOk_by (own := [("key", 8)]) (by decide +kernel)) (fun _ _ _ _ _ => (mg_name (i := 8) sc__law_rows.nd)) (fun _ _ _ _ _ => mts_nil) (fun _ _ _ _ _ => (me_tup (ma_cons (p1 := true) (p2 := false) (me_var 8 (pv 8)) (ma_cons (p1 := false) (p2 := true) (me_call F__law_tag (hr.mono (by decide)) blk_takes (mr_io 0 (pv 0) mr_nil) (by rfl)) ma_nil)))))) ma_nil)))))))))) (mss_one (ms_ret (me_move 2 (pv 2) rfl)))))
/-! ### _law_otherwise -/
abbrev s__law_otherwise : Stmt := topS 34
abbrev N__law_otherwise : List Str := ["deck", "rows", "found", "row", "hand", "way", "at", "to", "key", "tag"]
theorem sc__law_otherwise : FnScope N__law_otherwise ["deck", "rows"] (defScope s__law_otherwise) := ⟨rfl, rfl, rfl, by decide +kernel, rfl, by decide +kernel, by decide +kernel⟩
noncomputable def c__law_otherwise_1 : Sm W := mCompN (tgN 3) (Sm.ret true) (mUn (listOfW true) (mVar 3)) [3] (iLst (mVar 1))
noncomputable def b__law_otherwise : Sm Fl := sSeq (sSet 2 true (c__law_otherwise_1)) (sSeq (sSet 4 true (mCall f__law_take 2 (Sm.bind (mVar 0) fun _ => rIo 0 (rVal (mLendE 2 (mUn lenW (mVar 2))) (rNil))))) (sSeq (sSet 5 true (mCall f__law_take 2 (Sm.bind (mVar 0) fun _ => rIo 0 (rVal (mC (.int 7)) (rNil))))) (sSeq (sIf (tLendE 2 (toB (mBin neW true (mBin ixW true (mVar 2) (mVar 4)) (mArgs (lstW false) (mNil))))) (sSeq (sSet 6 true (mCall f__law_take 2 (Sm.bind (mVar 0) fun _ => rIo 0 (rVal (mLendE 2 (mUn lenW (mBin ixW true (mVar 2) (mVar 4)))) (rNil))))) (sSeq (sSet 7 true (mCall f__law_take 2 (Sm.bind (mVar 0) fun _ => rIo 0 (rVal (mLendE 2 (mUn lenW (mBin ixW true (mVar 2) (mVar 4)))) (rNil))))) (sSeq (sAsg (tgT [8, 9]) (mLendE 2 (mBin ixW true (mBin ixW true (mVar 2) (mVar 4)) (mVar 6)))) (sSeq (sIf (toB (mBin eqW true (mVar 5) (mC (.int 0)))) (sStoP 2 (pI 2 (pV 2) (mVar 4)) (mVar 6) (mArgs tupW (mCons (mBin (addW false) true (mVar 8) (mC (.int 1))) (mCons (mVar 9) (mNil))))) (sNil)) (sSeq (sIf (toB (mBin eqW true (mVar 5) (mC (.int 1)))) (sStoP 2 (pI 2 (pV 2) (mVar 4)) (mVar 6) (mArgs tupW (mCons (mVar 8) (mCons (mSlice false true (mBin (addW false) true (mBin (addW false) true (mSlice false true (mVar 9) (mNo) (mPart (mUn negW (mC (.int 1))))) (mBin ixW true (mC (.str "kmovw")) (mBin modW true (mVar 6) (mC (.int 5))))) (mC (.str "b"))) (mNo) (mPart (mC (.int 8)))) (mNil))))) (sNil)) (sSeq (sIf (toB (mBin eqW true (mVar 5) (mC (.int 2)))) (sSeq (sStoP 2 (pI 2 (pV 2) (mVar 4)) (mVar 6) (mLendE 2 (mBin ixW true (mBin ixW true (mVar 2) (mVar 4)) (mVar 7)))) (sStoP 2 (pI 2 (pV 2) (mVar 4)) (mVar 7) (mArgs tupW (mCons (mVar 8) (mCons (mVar 9) (mNil)))))) (sNil)) (sIf (toB (mBin eqW true (mVar 5) (mC (.int 3)))) (sDrop (mMutP 2 (pI 2 (pV 2) (mVar 4)) fPopAt (mCons (mVar 6) (mNil)))) (sNil)))))))) (sNil)) (sSeq (sIf (mAnd (toB (mBin eqW true (mVar 5) (mC (.int 4)))) (toB (mBin ltW true (mLendE 2 (mUn lenW (mVar 2))) (mC (.int 6))))) (sDrop (mMutKP 2 (pV 2) fInsert (mCons (mVar 4) (mCons (mArgs (lstW false) (mNil)) (mNil))))) (sNil)) (sSeq (sIf (mAnd (toB (mBin eqW true (mVar 5) (mC (.int 5)))) (toB (mBin gtW true (mLendE 2 (mUn lenW (mVar 2))) (mC (.int 1))))) (sDrop (mMutKP 2 (pV 2) kPop (mCons (mVar 4) (mNil)))) (sNil)) (sRet true (mMove 2)))))))
noncomputable def f__law_otherwise : Fn := fnSem 10 [true, false] b__law_otherwise
theorem w__law_otherwise {f : Addr} {fd : FuncData} (F : Fun K "_law_otherwise" "_law_otherwise" s__law_otherwise f fd) (g : mg "_law_otherwise" = some (.ref f)) (hb : Binds K fd ["deck", "rows"] []) (m_len : mg "len" = none) (m_list : mg "list" = none) (F__law_take : FnT P w K mg base CA "_law_take" 2 1 f__law_take) : FnT P w K mg base CA "_law_otherwise" 2 2 f__law_otherwise :=
  fnt_body F g hb sc__law_otherwise rfl rfl rfl fun cdv A outer s H E hr => (mss_cons (ms_setLcN (i := 2) rfl sc__law_otherwise.nd (own := [("row", 3)]) (mi_list (me_var 1 (pv 1))) (show BlkOk N__law_otherwise (defScope s__law_otherwise) _ _ from blkOk_by (own := [("row", 3)]) (by decide +kernel)) (fun _ _ _ _ _ => (mg_name (i := 3) sc__law_otherwise.nd)) (fun _ _ _ _ _ => mts_nil) (fun _ _ _ _ _ => (me_listOf true m_list (me_var 3 (pv 3))))) (mss_cons (ms_set (i := 4) sc__law_otherwise.nd (me_call F__law_take (hr.mono (by decide)) zf_takes (mr_io 0 (pv 0) (mr_val (p1 := true) (p2 := true) (me_lendE 2 (me_len m_len (me_var 2 (pv 2)))) mr_nil)) (by rfl))) (mss_cons (ms_set (i := 5) sc__law_otherwise.nd (me_call F__law_take (hr.mono (by decide)) zf_takes (mr_io 0 (pv 0) (mr_val (p1 := true) (p2 := true) me_int mr_nil)) (by rfl))) (mss_cons (ms_if (mt_lendE 2 (mt_cmp (p1 := true) (p2 := true) (k1 := true) (op_neW hr) (me_ix (p1 := true) (p2 := true) (k1 := false) (me_var 2 (pv 2)) (me_var 4 (pv 4))) (me_lst false ma_nil))) (mss_cons (ms_set (i := 6) sc__law_otherwise.nd (me_call F__law_take (hr.mono (by decide)) zf_takes (mr_io 0 (pv 0) (mr_val (p1 := true) (p2 := true) (me_lendE 2 (me_len m_len (me_ix (p1 := true) (p2 := true) (k1 := false) (me_var 2 (pv 2)) (me_var 4 (pv 4))))) mr_nil)) (by rfl))) (mss_cons (ms_set (i := 7) sc__law_otherwise.nd (me_call F__law_take (hr.mono (by decide)) zf_takes (mr_io 0 (pv 0) (mr_val (p1 := true) (p2 := true) (me_lendE 2 (me_len m_len (me_ix (p1 := true) (p2 := true) (k1 := false) (me_var 2 (pv 2)) (me_var 4 (pv 4))))) mr_nil)) (by rfl))) (mss_cons (ms_asg (me_lendE 2 (me_ix (p1 := true) (p2 := true) (k1 := true) (me_ix (p1 := true) (p2 := true) (k1 := false) (me_var 2 (pv 2)) (me_var 4 (pv 4))) (me_var 6 (pv 6)))) (mg_tup rfl (mgs_cons (i := 8) sc__law_otherwise.nd (mgs_cons (i := 9) sc__law_otherwise.nd mgs_nil)))) (mss_cons (ms_if (mt_cmp (p1 := true) (p2 := true) (k1 := false) (op_eqW hr) (me_var 5 (pv 5)) me_int) (mss_one (ms_stoP (me_tup (ma_cons (p1 := true) (p2 := true) (me_op (p1 := true) (p2 := true) (k1 := false) op_addW (me_var 8 (pv 8)) me_int) (ma_cons (p1 := true) (p2 := true) (me_var 9 (pv 9)) ma_nil))) (mp_ix (mp_var 2 (pv 2)) (me_var 4 (pv 4))) (me_var 6 (pv 6)))) mss_nil) (mss_cons (ms_if (mt_cmp (p1 := true) (p2 := true) (k1 := false) (op_eqW hr) (me_var 5 (pv 5)) me_int) (mss_one (ms_stoP (me_tup (ma_cons (p1 := true) (p2 := true) (me_var 8 (pv 8)) (ma_cons (p1 := true) (p2 := true) (me_slice false (p := true) (p1 := true) (p2 := true) (k1 := true) (me_op (p1 := true) (p2 := true) (k1 := true) op_addW (me_op (p1 := true) (p2 := true) (k1 := true) op_addW (me_slice false (p := true) (p1 := true) (p2 := true) (k1 := false) (me_var 9 (pv 9)) mo_no (mo_some (me_neg me_int))) (me_ix (p1 := true) (p2 := true) (k1 := true) me_str (me_op (p1 := true) (p2 := true) (k1 := false) op_modW (me_var 6 (pv 6)) me_int))) me_str) mo_no (mo_some me_int)) ma_nil))) (mp_ix (mp_var 2 (pv 2)) (me_var 4 (pv 4))) (me_var 6 (pv 6)))) mss_nil) (mss_cons (ms_if (mt_cmp (p1 := true) (p2 := true) (k1 := false) (op_eqW hr) (me_var 5 (pv 5)) me_int) (mss_cons (ms_stoP (me_lendE 2 (me_ix (p1 := true) (p2 := true) (k1 := true) (me_ix (p1 := true) (p2 := true) (k1 := false) (me_var 2 (pv 2)) (me_var 4 (pv 4))) (me_var 7 (pv 7)))) (mp_ix (mp_var 2 (pv 2)) (me_var 4 (pv 4))) (me_var 6 (pv 6))) (mss_one (ms_stoP (me_tup (ma_cons (p1 := true) (p2 := true) (me_var 8 (pv 8)) (ma_cons (p1 := true) (p2 := true) (me_var 9 (pv 9)) ma_nil))) (mp_ix (mp_var 2 (pv 2)) (me_var 4 (pv 4))) (me_var 7 (pv 7))))) mss_nil) (mss_one (ms_if (mt_cmp (p1 := true) (p2 := true) (k1 := false) (op_eqW hr) (me_var 5 (pv 5)) me_int) (mss_one (ms_expr (me_popAtP (mp_ix (mp_var 2 (pv 2)) (me_var 4 (pv 4))) (ma_cons (p1 := true) (p2 := true) (me_var 6 (pv 6)) ma_nil)))) mss_nil)))))))) mss_nil) (mss_cons (ms_if (mt_w (mw_and (p1 := true) (p2 := true) (mt_cmp (p1 := true) (p2 := true) (k1 := false) (op_eqW hr) (me_var 5 (pv 5)) me_int) (mw_and1 (mt_cmp (p1 := true) (p2 := true) (k1 := true) (op_ltW hr) (me_lendE 2 (me_len m_len (me_var 2 (pv 2)))) me_int)))) (mss_one (ms_expr (me_insertK (mp_var 2 (pv 2)) (ma_cons (p1 := true) (p2 := true) (me_var 4 (pv 4)) (ma_cons (p1 := true) (p2 := true) (me_lst false ma_nil) ma_nil))))) mss_nil) (mss_cons (ms_if (mt_w (mw_and (p1 := true) (p2 := true) (mt_cmp (p1 := true) (p2 := true) (k1 := false) (op_eqW hr) (me_var 5 (pv 5)) me_int) (mw_and1 (mt_cmp (p1 := true) (p2 := true) (k1 := true) (op_gtW hr) (me_lendE 2 (me_len m_len (me_var 2 (pv 2)))) me_int)))) (mss_one (ms_expr (me_popK (mp_var 2 (pv 2)) (ma_cons (p1 := true) (p2 := true) (me_var 4 (pv 4)) ma_nil)))) mss_nil) (mss_one (ms_ret (me_move 2 (pv 2) rfl)))))))))
/-! ### law -/
abbrev s_law : Stmt := topS 35
abbrev N_law : List Str := ["script", "k", "deck", "rows", "pair", "texts", "one", "j", "row", "part", "names", "told", "name", "key", "hand", "place"]
theorem sc_law : FnScope N_law ["script"] (defScope s_law) := ⟨rfl, rfl, rfl, by decide +kernel, rfl, by decide +kernel, by decide +kernel⟩
noncomputable def c_law_1 : Sm W := mComp true (tgN 6) (Sm.ret true) (mCallP f_show_rows (Sm.bind (mCons (mVar 6) (mNil)) fun ws => if ws.length = 1 then Sm.ret ws else fun _ => .bad)) [6] (iLst (mVar 4))
noncomputable def b_law_3 : Sm Fl := sIf (mOr (toB (mBin neW true (mFzD (mCallP f_read_rows (Sm.bind (mCons (mVar 9) (mNil)) fun ws => if ws.length = 1 then Sm.ret ws else fun _ => .bad))) (mArgs (lstW false) (mCons (mVar 8) (mNil))))) (toB (mBin neW true (mCallP f_show_rows (Sm.bind (mCons (mArgs (lstW false) (mCons (mVar 8) (mNil))) (mNil)) fun ws => if ws.length = 1 then Sm.ret ws else fun _ => .bad)) (mVar 9)))) (sRet true (mC (.bl false))) (sNil)
noncomputable def b_law_2 : Sm Fl := sSeq (sIf (mOr (toB (mBin neW true (mFzD (mCallP f_read_rows (Sm.bind (mCons (mBin ixW true (mVar 5) (mVar 7)) (mNil)) fun ws => if ws.length = 1 then Sm.ret ws else fun _ => .bad))) (mBin ixW true (mVar 4) (mVar 7)))) (toB (mBin neW true (mCallP f_show_rows (Sm.bind (mCons (mFzD (mCallP f_read_rows (Sm.bind (mCons (mBin ixW true (mVar 5) (mVar 7)) (mNil)) fun ws => if ws.length = 1 then Sm.ret ws else fun _ => .bad))) (mNil)) fun ws => if ws.length = 1 then Sm.ret ws else fun _ => .bad)) (mBin ixW true (mVar 5) (mVar 7))))) (sRet true (mC (.bl false))) (sNil)) (sFor (tgT [8, 9]) b_law_3 [8, 9] (iArgs zipL (mCons (mBin ixW true (mVar 4) (mVar 7)) (mCons (mMeth tyStr (split1W false) true (mBin ixW true (mVar 5) (mVar 7)) (mCons (mC (.str "; ")) (mNil))) (mNil)))))
noncomputable def c_law_2 : Sm W := mComp true (tgN 12) (Sm.ret true) (mCallP f_show_name (Sm.bind (mCons (mVar 12) (mNil)) fun ws => if ws.length = 1 then Sm.ret ws else fun _ => .bad)) [12] (iLst (mVar 10))
noncomputable def c_law_3 : Sm W := mComp true (tgT [13, 14, 15]) (Sm.ret true) (mBin (addW false) true (mBin (addW false) true (mBin (addW false) true (mBin (addW false) true (mUn strOfW (mVar 13)) (mC (.str "."))) (mUn strOfW (mVar 14))) (mC (.str "."))) (mUn strOfW (mVar 15))) [13, 14, 15] (iLst (mVar 10))
noncomputable def b_law_1 : Sm Fl := sSeq (sSet 2 true (mCallP f__law_deck (Sm.bind (mCons (mCallP f__law_cell_at (Sm.bind (mCons (mVar 0) (mCons (mVar 1) (mNil))) fun ws => if ws.length = 2 then Sm.ret ws else fun _ => .bad)) (mCons (mC (.int 160)) (mNil))) fun ws => if ws.length = 2 then Sm.ret ws else fun _ => .bad))) (sSeq (sSet 3 true (mFz (mCall f__law_rows 2 (Sm.bind (mVar 2) fun _ => rIo 2 (rVal (mC (.int 10)) (rNil)))))) (sSeq (sSet 4 true (mArgs (lstW false) (mCons (mVar 3) (mCons (mFzD (mCall f__law_otherwise 2 (Sm.bind (mVar 2) fun _ => rIo 2 (rVal (mVar 3) (rNil))))) (mNil))))) (sSeq (sSet 5 true (mFz (c_law_1))) (sSeq (sIf (toB (mBin neW true (mBin eqW true (mBin ixW true (mVar 5) (mC (.int 0))) (mBin ixW true (mVar 5) (mC (.int 1)))) (mBin eqW true (mBin ixW true (mVar 4) (mC (.int 0))) (mBin ixW true (mVar 4) (mC (.int 1)))))) (sRet true (mC (.bl false))) (sNil)) (sSeq (sFor (tgN 7) b_law_2 [7, 8, 9] (iArgs rng1 (mCons (mC (.int 2)) (mNil)))) (sSeq (sSet 10 true (mFz (mCallP f_names_plainly (Sm.bind (mCons (mVar 3) (mNil)) fun ws => if ws.length = 1 then Sm.ret ws else fun _ => .bad)))) (sSeq (sSet 11 true (mFz (c_law_2))) (sSeq (sIf (toB (mBin neW true (mVar 11) (mFz (c_law_3)))) (sRet true (mC (.bl false))) (sNil)) (sSeq (sIf (toB (mBin neW true (mUn lenSetW (mVar 11)) (mUn lenW (mVar 10)))) (sRet true (mC (.bl false))) (sNil)) (sSeq (sPar3 13 14 15 (mCons (mCall f__law_key 1 (Sm.bind (mVar 2) fun _ => rIo 2 (rNil))) (mCons (mCall f__law_take 2 (Sm.bind (mVar 2) fun _ => rIo 2 (rVal (mC (.int 6)) (rNil)))) (mCons (mCall f__law_take 2 (Sm.bind (mVar 2) fun _ => rIo 2 (rVal (mC (.int 1200)) (rNil)))) (mNil))))) (sIf (toB (mBin neW true (mCallP f_show_name (Sm.bind (mCons (mArgs tupW (mCons (mVar 13) (mCons (mVar 14) (mCons (mVar 15) (mNil))))) (mNil)) fun ws => if ws.length = 1 then Sm.ret ws else fun _ => .bad)) (mBin (addW false) true (mBin (addW false) true (mBin (addW false) true (mBin (addW false) true (mUn strOfW (mVar 13)) (mC (.str "."))) (mUn strOfW (mVar 14))) (mC (.str "."))) (mUn strOfW (mVar 15))))) (sRet true (mC (.bl false))) (sNil))))))))))))
noncomputable def b_law : Sm Fl := sSeq (sFor (tgN 1) b_law_1 [1, 2, 3, 4, 5, 7, 10, 11, 13, 14, 15, 8, 9] (iArgs rng1 (mCons (mArgs max2W (mCons (mC (.int 1)) (mCons (mArgs min2W (mCons (mUn lenW (mVar 0)) (mCons (mC (.int 8)) (mNil)))) (mNil)))) (mNil)))) (sRet true (mC (.bl true)))
noncomputable def f_law : Fn := fnSem 16 [false] b_law
theorem o_law {f : Addr} {fd : FuncData} (F : Fun K "law" "law" s_law f fd) (m_len : mg "len" = none) (m_max : mg "max" = none) (m_min : mg "min" = none) (m_range : mg "range" = none) (m_set : mg "set" = none) (m_str : mg "str" = none) (m_zip : mg "zip" = none) (F_names_plainly : FnT P w K mg base CA "names_plainly" 1 1 f_names_plainly) (F_show_rows : FnT P w K mg base CA "show_rows" 1 3 f_show_rows) (F_show_name : FnT P w K mg base CA "show_name" 1 1 f_show_name) (F_read_rows : FnT P w K mg base CA "read_rows" 1 5 f_read_rows) (F__law_cell_at : FnT P w K mg base CA "_law_cell_at" 2 1 f__law_cell_at) (F__law_deck : FnT P w K mg base CA "_law_deck" 2 2 f__law_deck) (F__law_take : FnT P w K mg base CA "_law_take" 2 1 f__law_take) (F__law_key : FnT P w K mg base CA "_law_key" 1 2 f__law_key) (F__law_rows : FnT P w K mg base CA "_law_rows" 2 3 f__law_rows) (F__law_otherwise : FnT P w K mg base CA "_law_otherwise" 2 2 f__law_otherwise) : FnOk P w K mg base (L2.CX P w) 6 f fd ["script"] (spOf ⟨K, CA⟩ 1 f_law) :=
  fn_body F sc_law rfl rfl fun cdv A outer s H E hr => (mss_cons (ms_for [1, 2, 3, 4, 5, 7, 10, 11, 13, 14, 15, 8, 9] zf_pass rfl (mi_range1 m_range (ma_cons (p1 := true) (p2 := true) (me_max2 rfl m_max (ma_cons (p1 := true) (p2 := true) me_int (ma_cons (p1 := true) (p2 := true) (me_min2 rfl m_min (ma_cons (p1 := true) (p2 := true) (me_len m_len (me_var 0 (pv 0))) (ma_cons (p1 := true) (p2 := true) me_int ma_nil))) ma_nil))) ma_nil)) (mg_name (i := 1) sc_law.nd) (mss_cons (ms_set (i := 2) sc_law.nd (me_callP F__law_deck (hr.mono (by decide)) zf_takes (ma_cons (p1 := true) (p2 := true) (me_callP F__law_cell_at (hr.mono (by decide)) zf_takes (ma_cons (p1 := true) (p2 := true) (me_var 0 (pv 0)) (ma_cons (p1 := true) (p2 := true) (me_var 1 (pv 1)) ma_nil)) (by rfl)) (ma_cons (p1 := true) (p2 := true) me_int ma_nil)) (by rfl))) (mss_cons (ms_set (i := 3) sc_law.nd (me_fz (me_call F__law_rows (hr.mono (by decide)) zf_takes (mr_io 2 (pv 2) (mr_val (p1 := true) (p2 := true) me_int mr_nil)) (by rfl)))) (mss_cons (ms_set (i := 4) sc_law.nd (me_lst false (ma_cons (p1 := true) (p2 := false) (me_var 3 (pv 3)) (ma_cons (p1 := false) (p2 := true) (me_fzD (me_call F__law_otherwise (hr.mono (by decide)) zf_takes (mr_io 2 (pv 2) (mr_val (p1 := true) (p2 := true) (me_var 3 (pv 3)) mr_nil)) (by rfl))) ma_nil)))) (mss_cons (ms_setLc (i := 5) false rfl sc_law.nd (own := [("one", 6)]) (p := true) (pt := true) (pe := true) (mi_list (me_var 4 (pv 4))) (show BlkOk N_law (defScope s_law) _ _ from blkOk_by (own := [("one", 6)]) (by decide +kernel)) (fun _ _ _ _ _ => (mg_name (i := 6) sc_law.nd)) (fun _ _ _ _ _ => mts_nil) (fun _ _ _ _ _ => (me_callP F_show_rows (hr.mono (by decide)) blk_takes (ma_cons (p1 := true) (p2 := true) (me_var 6 (pv 6)) ma_nil) (by rfl)))) (mss_cons (ms_if (mt_cmp (p1 := true) (p2 := true) (k1 := true) (op_neW hr) (me_cmp (p1 := true) (p2 := true) (k1 := true) (op_eqW hr) (me_ix (p1 := true) (p2 := true) (k1 := false) (me_var 5 (pv 5)) me_int) (me_ix (p1 := true) (p2 := true) (k1 := false) (me_var 5 (pv 5)) me_int)) (me_cmp (p1 := true) (p2 := true) (k1 := true) (op_eqW hr) (me_ix (p1 := true) (p2 := true) (k1 := false) (me_var 4 (pv 4)) me_int) (me_ix (p1 := true) (p2 := true) (k1 := false) (me_var 4 (pv 4)) me_int))) (mss_one (ms_ret me_bl)) mss_nil) (mss_cons (ms_for [7, 8, 9] zf_pass rfl (mi_range1 m_range (ma_cons (p1 := true) (p2 := true) me_int ma_nil)) (mg_name (i := 7) sc_law.nd) (mss_cons (ms_if (mt_w (mw_or (p1 := true) (p2 := true) (mt_cmp (p1 := true) (p2 := true) (k1 := true) (op_neW hr) (me_fzD (me_callP F_read_rows (hr.mono (by decide)) zf_takes (ma_cons (p1 := true) (p2 := true) (me_ix (p1 := true) (p2 := true) (k1 := false) (me_var 5 (pv 5)) (me_var 7 (pv 7))) ma_nil) (by rfl))) (me_ix (p1 := true) (p2 := true) (k1 := false) (me_var 4 (pv 4)) (me_var 7 (pv 7)))) (mw_or1 (mt_cmp (p1 := true) (p2 := true) (k1 := true) (op_neW hr) (me_callP F_show_rows (hr.mono (by decide)) zf_takes (ma_cons (p1 := true) (p2 := true) (me_fzD (me_callP F_read_rows (hr.mono (by decide)) zf_takes (ma_cons (p1 := true) (p2 := true) (me_ix (p1 := true) (p2 := true) (k1 := false) (me_var 5 (pv 5)) (me_var 7 (pv 7))) ma_nil) (by rfl))) ma_nil) (by rfl)) (me_ix (p1 := true) (p2 := true) (k1 := false) (me_var 5 (pv 5)) (me_var 7 (pv 7))))))) (mss_one (ms_ret me_bl)) mss_nil) (mss_one (ms_for [8, 9] zf_pass rfl (mi_zip m_zip (ma_cons (p1 := true) (p2 := true) (me_ix (p1 := true) (p2 := true) (k1 := false) (me_var 4 (pv 4)) (me_var 7 (pv 7))) (ma_cons (p1 := true) (p2 := true) (me_split false (p1 := true) (p2 := true) (k1 := true) (me_ix (p1 := true) (p2 := true) (k1 := false) (me_var 5 (pv 5)) (me_var 7 (pv 7))) (ma_cons (p1 := true) (p2 := true) me_str ma_nil)) ma_nil))) (mg_tup rfl (mgs_cons (i := 8) sc_law.nd (mgs_cons (i := 9) sc_law.nd mgs_nil))) (mss_one (ms_if (mt_w (mw_or (p1 := true) (p2 := true) (mt_cmp (p1 := true) (p2 := true) (k1 := true) (op_neW hr) (me_fzD (me_callP F_read_rows (hr.mono (by decide)) zf_takes (ma_cons (p1 := true) (p2 := true) (me_var 9 (pv 9)) ma_nil) (by rfl))) (me_lst false (ma_cons (p1 := true) (p2 := true) (me_var 8 (pv 8)) ma_nil))) (mw_or1 (mt_cmp (p1 := true) (p2 := true) (k1 := true) (op_neW hr) (me_callP F_show_rows (hr.mono (by decide)) zf_takes (ma_cons (p1 := true) (p2 := true) (me_lst false (ma_cons (p1 := true) (p2 := true) (me_var 8 (pv 8)) ma_nil)) ma_nil) (by rfl)) (me_var 9 (pv 9)))))) (mss_one (ms_ret me_bl)) mss_nil)))))) (mss_cons (ms_set (i := 10) sc_law.nd (me_fz (me_callP F_names_plainly (hr.mono (by decide)) zf_takes (ma_cons (p1 := true) (p2 := true) (me_var 3 (pv 3)) ma_nil) (by rfl)))) (mss_cons (ms_setLc (i := 11) false rfl sc_law.nd (own := [("name", 12)]) (p := true) (pt := true) (pe := true) (mi_list (me_var 10 (pv 10))) (show BlkOk N_law (defScope s_law) _ _ from blkOk_by (own := [("name", 12)]) (by decide +kernel)) (fun _ _ _ _ _ => (mg_name (i := 12) sc_law.nd)) (fun _ _ _ _ _ => mts_nil) (fun _ _ _ _ _ => (me_callP F_show_name (hr.mono (by decide)) blk_takes (ma_cons (p1 := true) (p2 := true) (me_var 12 (pv 12)) ma_nil) (by rfl)))) (mss_cons (ms_if (mt_cmp (p1 := true) (p2 := true) (k1 := false) (op_neW hr) (me_var 11 (pv 11)) (me_fz (me_lc rfl sc_law.nd (own := [("key", 13), ("hand", 14), ("place", 15)]) (p := true) (pt := true) (pe := true) (mi_list (me_var 10 (pv 10))) (show BlkOk N_law (defScope s_law) _ _ from blkOk_by (own := [("key", 13), ("hand", 14), ("place", 15)]) (by decide +kernel)) (fun _ _ _ _ _ => (mg_tup rfl (mgs_cons (i := 13) sc_law.nd (mgs_cons (i := 14) sc_law.nd (mgs_cons (i := 15) sc_law.nd mgs_nil))))) (fun _ _ _ _ _ => mts_nil) (fun _ _ _ _ _ => (me_op (p1 := true) (p2 := true) (k1 := true) op_addW (me_op (p1 := true) (p2 := true) (k1 := true) op_addW (me_op (p1 := true) (p2 := true) (k1 := true) op_addW (me_op (p1 := true) (p2 := true) (k1 := true) op_addW (me_strOf m_str (me_var 13 (pv 13))) me_str) (me_strOf m_str (me_var 14 (pv 14)))) me_str) (me_strOf m_str (me_var 15 (pv 15)))))))) (mss_one (ms_ret me_bl)) mss_nil) (mss_cons (ms_if (mt_cmp (p1 := true) (p2 := true) (k1 := true) (op_neW hr) (me_lenSet rfl m_len m_set (me_var 11 (pv 11))) (me_len m_len (me_var 10 (pv 10)))) (mss_one (ms_ret me_bl)) mss_nil) (mss_cons (ms_par3 rfl sc_law.nd (ma_cons (p1 := false) (p2 := false) (me_call F__law_key (hr.mono (by decide)) zf_takes (mr_io 2 (pv 2) mr_nil) (by rfl)) (ma_cons (p1 := false) (p2 := false) (me_call F__law_take (hr.mono (by decide)) zf_takes (mr_io 2 (pv 2) (mr_val (p1 := true) (p2 := true) me_int mr_nil)) (by rfl)) (ma_cons (p1 := false) (p2 := true) (me_call F__law_take (hr.mono (by decide)) zf_takes (mr_io 2 (pv 2) (mr_val (p1 := true) (p2 := true) me_int mr_nil)) (by rfl)) ma_nil)))) (mss_one (ms_if (mt_cmp (p1 := true) (p2 := true) (k1 := true) (op_neW hr) (me_callP F_show_name (hr.mono (by decide)) zf_takes (ma_cons (p1 := true) (p2 := true) (me_tup (ma_cons (p1 := true) (p2 := true) (me_var 13 (pv 13)) (ma_cons (p1 := true) (p2 := true) (me_var 14 (pv 14)) (ma_cons (p1 := true) (p2 := true) (me_var 15 (pv 15)) ma_nil)))) ma_nil) (by rfl)) (me_op (p1 := true) (p2 := true) (k1 := true) op_addW (me_op (p1 := true) (p2 := true) (k1 := true) op_addW (me_op (p1 := true) (p2 := true) (k1 := true) op_addW (me_op (p1 := true) (p2 := true) (k1 := true) op_addW (me_strOf m_str (me_var 13 (pv 13))) me_str) (me_strOf m_str (me_var 14 (pv 14)))) me_str) (me_strOf m_str (me_var 15 (pv 15))))) (mss_one (ms_ret me_bl)) mss_nil)))))))))))))) (mss_one (ms_ret me_bl)))
end
end Ev
namespace Ev
open PySem PySem.Spec L2
local macro_rules
  | `(tactic| simp_arith [$ls,*] $[$l:location]?) => `(tactic| simp only [↓r_bind, ↓r_ret, ↓r_lft, ↓r_c, ↓r_var2, ↓r_move, ↓r_un, ↓r_bin, ↓r_chain, ↓r_toB, ↓r_ofB, ↓r_and, ↓r_or, ↓r_not, ↓r_nil, ↓r_cons, ↓r_args, ↓r_iargs, ↓r_ilst, ↓r_part, ↓r_no, ↓r_slice, ↓r_callP, ↓r_rnil, ↓r_rval, ↓r_rio, ↓r_call, ↓r_callL, ↓r_fz, ↓r_seq, ↓r_snil, ↓r_if, ↓r_drop, ↓r_sret, ↓r_set, ↓r_asg, ↓r_aug, ↓r_sfor, ↓r_mut, ↓r_sto, ↓r_go, ↓r_gfz, ↓r_push, ↓r_gfzD, ↓r_fzD,  ↓r_raise, ↓r_try, ↓r_itup, ↓r_iseq, ↓r_andV, ↓r_orV, ↓r_notV, ↓r_fn, ↓r_meth, ↓r_augS, ↓r_ichr, ↓r_pair, ↓r_mutN, ↓r_mutT, ↓r_app, ↓r_gfzC, ↓r_callO, ↓r_asgN, ↓r_takeK, pick_nst, pick_ntp, w_strL, w_zip3, ↓r_dnew, ↓r_key1, ↓r_keyT, ↓r_dget, ↓r_dget2, ↓r_dput, ↓r_mutP, ↓r_mutKP, ↓r_stoP, ↓r_stoN, ↓r_dputP, ↓r_fldP, ↓r_callM, ↓r_makeL, ↓r_gfzK, ↓r_gfzP, ↓r_dpopP, ↓r_augP, ↓r_forP, ↓r_chainI, ↓r_callT, ↓r_ikeys, ↓r_keyCut, w_keyI, w_keyS, w_keyT2, w_lookT, w_lookK, w_lookDT, w_lookDK, w_dputT, w_dputK, w_dkeysT, w_dkeysK, isDW_dct, frz_dct, pick_dct, w_geX, ty_str, and_self,
      maskL_nil, maskL_cons, frz_non, frz_bl, frz_int, frz_str, frz_tup, frz_lst, frz_scr, fz_lst, fz_int, fz_tup, fz_str, fz_bl, w_lst, w_tup, w_add, w_addL, w_addB, w_sub, w_mul, w_rep, w_fdiv, w_mod, w_pow, w_neg, w_lt, w_le, w_ge, w_gt, w_bl, w_intW, w_toI, w_toB, w_max2, w_min2, w_abs, w_lenL, w_lenC, w_lenT, w_listL, w_listC, w_listT, w_tupL, w_rev, w_ixL, w_ixC, w_ixT, w_cutL, w_cutC, w_frzL, w_frzC, w_rng1, w_rng2, w_enum, w_enumC, w_zip, w_app, w_ext, w_pop, w_sum, w_isx, w_isiI, w_isiB, w_tgN, w_tgT, w_killN, w_killC, w_takeN, w_takeV, w_takeI, w_putI, w_putV, w_putN, w_lendN, w_lendV, w_lendI, flat_bl, flat_int, flat_non,
      pick_non, pick_bl, pick_int, pick_str, pick_tup, pick_lst, pick_scr, pick_exc, pick_T, pick_R, pick_N, frzT, frzR, frzN, w_seqL, w_seqT, w_seqC, w_zipT, w_zipA, w_tupLt, w_leX, eqW_int, neW_int, eqW_nil, neW_nil, eqW_str, neW_str, List.cons_append, List.nil_append, List.length_cons, List.length_nil, List.replicate_succ, List.replicate_zero, List.getElem?_cons_zero, List.getElem?_cons_succ, List.set_cons_zero, List.set_cons_succ, List.length_map, Option.map_some, Option.bind_some, cond_true, cond_false, Bool.true_or, Bool.or_true, Bool.false_or, Bool.or_false, Bool.not_true, Bool.not_false, Bool.true_and, Bool.false_and, Nat.reduceSub, Nat.reduceAdd, Nat.reduceLeDiff, ↓reduceIte, if_true, if_false, reduceCtorEq, decide_true, decide_false, decide_eq_true_eq, Nat.zero_add, Nat.add_zero, $ls,*] $[$l]?)
/-! ### a comprehension, by what holds between its things -/
theorem mLc_inv {α β : Type} {f : Tg} {tt : Sm Bool} {te : Sm W} {vs : List Nat} (e : α → W) (d : β → W) (P : β → Prop) (I : Nat → List W → Prop) : ∀ {xs : List α} {acc env : List W}, I xs.length (killE vs env) → acc.length + xs.length ≤ sizeLine →
    (∀ x ∈ xs, ∀ n env, I (n + 1) env → ∃ y env', lcOne f tt te vs (e x) env = .ok (some (d y)) env' ∧ P y ∧ I n env') → ∃ (ys : List β) (env' : List W), mLc f tt te vs (xs.map e) acc env = .ok (acc ++ ys.map d) env' ∧ I 0 env' ∧ ys.length = xs.length ∧ ∀ y ∈ ys, P y
  | [], acc, env, i, hl, _ => ⟨[], killE vs env, by rw [List.map_nil, List.map_nil, List.append_nil, mLc], i, rfl, fun _ z => nomatch z⟩
  | x :: xs, acc, env, i, hl, h => by
    rw [List.length_cons] at hl
    obtain ⟨y, env', h1, h2, h3⟩ := h x List.mem_cons_self _ _ i
    obtain ⟨env2, h4, h5⟩ := mLc_cons (xs := xs.map e) (acc := acc) h1 (by omega)
    rw [← h4] at h3
    obtain ⟨ys, env3, g1, g2, g3, g4⟩ := mLc_inv (acc := acc ++ [d y]) e d P I h3 (by rw [List.length_append, List.length_singleton]; omega) fun z hz => h z (List.mem_cons_of_mem _ hz)
    refine ⟨y :: ys, env3, ?_, g2, by rw [List.length_cons, g3, List.length_cons], fun z hz => ?_⟩
    · rw [List.map_cons, h5]
      show mLc f tt te vs (xs.map e) (acc ++ [d y]) env2 = _
      rw [g1, List.map_cons, List.append_assoc]
      rfl
    · rcases List.mem_cons.mp hz with rfl | hz
      · exact h2
      · exact g4 z hz
theorem comp_inv {α β : Type} {f : Tg} {tt : Sm Bool} {te : Sm W} {vs : List Nat} {mi : Sm (List W)} {env env1 : List W} (e : α → W) (d : β → W) (P : β → Prop) (I : Nat → List W → Prop) {xs : List α} (hm : mi env = .ok (xs.map e) env1) (hi : I xs.length (killE vs env1)) (hl : xs.length ≤ sizeLine)
    (h : ∀ x ∈ xs, ∀ n env, I (n + 1) env → ∃ y env', lcOne f tt te vs (e x) env = .ok (some (d y)) env' ∧ P y ∧ I n env') : ∃ (ys : List β) (env' : List W), mComp false f tt te vs mi env = .ok (.lst true (ys.map d)) env' ∧ I 0 env' ∧ ys.length = xs.length ∧ ∀ y ∈ ys, P y := by
  obtain ⟨ys, env', h1, h2, h3, h4⟩ := mLc_inv (acc := []) (env := env1) (f := f) (tt := tt) (te := te) (vs := vs) e d P I hi (by simpa using hl) h
  refine ⟨ys, env', ?_, h2, h3, h4⟩
  unfold mComp
  rw [r_bind, hm]
  dsimp only
  rw [h1]
  rfl
theorem cut_takeN (xs : List W) (k : Nat) : cutL xs none (some (k : Int)) = xs.take k := by
  unfold cutL
  rw [HT.sIx_none, HT.sIx_nat, List.drop_zero, Nat.sub_zero]
  rcases Nat.le_total k xs.length with h | h
  · rw [Nat.min_eq_left h]
  · rw [Nat.min_eq_right h, List.take_of_length_le (Nat.le_refl _), List.take_of_length_le h]
theorem cut_dropN (xs : List W) (k : Nat) : cutL xs (some (k : Int)) none = xs.drop k := by
  unfold cutL
  rw [HT.sIx_none, HT.sIx_nat]
  rcases Nat.le_total k xs.length with h | h
  · rw [Nat.min_eq_left h, List.take_of_length_le (by rw [List.length_drop]; omega)]
  · rw [Nat.min_eq_right h, List.drop_of_length_le (Nat.le_refl _), List.drop_of_length_le h]
    simp
/-! ### decks -/
theorem powW18 : powW (.int 10) (.int 18) = some (.int 1000000000000000000) := by
  have h : powOk 10 18 := ⟨by decide, by decide, by decide⟩
  rw [w_pow, if_pos h]
  rfl
theorem powW29 : powW (.int 10) (.int 29) = some (.int 100000000000000000000000000000) := by
  have h : powOk 10 29 := ⟨by decide, by decide, by decide⟩
  rw [w_pow, if_pos h]
  rfl
def cellAt (ns : List Int) (k : Nat) : Int := (ns[k]?).getD 0
theorem e_cell (ns : List Int) (k : Nat) : f__law_cell_at [.scr (ns.map W.int), .int k] = .ok (.int (cellAt ns k)) [.dead, .dead] := by
  unfold f__law_cell_at b__law_cell_at
  by_cases h : k < ns.length
  · have h2 : (k : Int) < (ns.length : Int) := by omega
    simp_arith [h2, atI_map, List.getElem?_eq_getElem h, cellAt, Option.getD_some]
  · have h2 : ¬ (k : Int) < (ns.length : Int) := by omega
    simp_arith [h2, cellAt, List.getElem?_eq_none (Nat.le_of_not_lt h), Option.getD_none]
abbrev dk (d : List Int) : W := .lst true (d.map W.int)
theorem dk_app (d : List Int) (x : Int) : d.map W.int ++ [W.int x] = (d ++ [x]).map W.int := by rw [List.map_append]; rfl
theorem e_numbers (c : Int) (m : Nat) (hm : m ≤ 1000) : ∃ d : List Int, d.length = m ∧ f__law_numbers [.int c, .int (m : Int)] = .ok (dk d) [.dead, .dead] := by
  have lg := line_ge
  have hr : rngOk (m : Int) := rngOk_of (by omega) (by omega)
  obtain ⟨env', e1, d, r, s, q1, rfl⟩ := mFor_inv (f := tgN 5) (body := b__law_numbers_1) (kill := [5, 6]) (xs := List.range m) (fun i : Nat => W.int (0 + (i : Int)))
    (fun n env => ∃ (d : List Int) (r s : Int), d.length + n = m ∧ env = [.int c, .int (m : Int), dk d, .int r, .int s, .dead, .dead]) (env := [.int c, .int (m : Int), .lst true [], .int c, .int (c % 2147483647), .dead, .dead])
    ⟨[], c, c % 2147483647, by simp, rfl⟩ (by
    rintro k hk n env ⟨d, r, s, q1, rfl⟩
    have hl : d.length < sizeLine := by omega
    have hk2 : mulOk 7 (0 + (k : Int)) := mulOk_l (by omega) (by omega)
    by_cases h1 : 1000000000000000000 ≤ c ∧ 0 < r
    · obtain ⟨h1, h2⟩ := h1
      refine ⟨[.int c, .int m, dk (d ++ [r % 64]), .int (r / 64), .int s, .dead, .dead], ?_, d ++ [r % 64], r / 64, s, by rw [List.length_append, List.length_singleton]; omega, rfl⟩
      unfold b__law_numbers_1 turn
      simp_arith [↓powW18, h1, h2, hl, Int.reduceLT, divOk_of (j := 64) (by decide) (by decide), dk_app]
    · obtain ⟨s', hs⟩ : ∃ s', s' = (s + 7 * (0 + (k : Int)) + 3) * 48271 % 2147483647 := ⟨_, rfl⟩
      have k1 : mulOk s' s' := mulOk_l (by omega) (by omega)
      have go : turn (tgN 5) b__law_numbers_1 [5, 6] (W.int (0 + (k : Int))) [.int c, .int m, dk d, .int r, .int s, .dead, .dead] = .ok .nx [.int c, .int m, dk (d ++ [s' * s' % 2147483629 * 69621 % 2147483587 / 8 % 720720]), .int r, .int s', .dead, .dead] := by
        unfold b__law_numbers_1 turn
        by_cases h3 : 1000000000000000000 ≤ c
        · have h4 : ¬ 0 < r := fun z => h1 ⟨h3, z⟩
          simp_arith [↓powW18, h3, h4, hl, Int.reduceLT, divOk_of (j := 8) (by decide) (by decide), dk_app, hk2, mulOk_r (j := 48271) (by decide) (by decide), ← hs, k1, mulOk_r (j := 69621) (by decide) (by decide)]
        · simp_arith [↓powW18, h3, hl, Int.reduceLT, divOk_of (j := 8) (by decide) (by decide), dk_app, hk2, mulOk_r (j := 48271) (by decide) (by decide), ← hs, k1, mulOk_r (j := 69621) (by decide) (by decide)]
      exact ⟨_, go, _, r, s', by rw [List.length_append, List.length_singleton]; omega, rfl⟩)
  refine ⟨d, by omega, ?_⟩
  unfold f__law_numbers b__law_numbers
  simp_arith [hr, rngL_nat, Int.toNat_natCast, Nat.zero_le, Int.reduceLT, e1]
theorem e_deck (c : Int) (m : Nat) (hm : m ≤ 1000) : ∃ d : List Int, d.length = m ∧ f__law_deck [.int c, .int (m : Int)] = .ok (dk d) [.dead, .dead] := by
  obtain ⟨d, h1, h2⟩ := e_numbers c m hm
  refine ⟨d.reverse, by rw [List.length_reverse, h1], ?_⟩
  unfold f__law_deck b__law_deck
  simp_arith [h2, dk, List.map_reverse]
theorem e_take (d : List Int) (many : Int) (m0 : 0 < many) : ∃ (v : Int) (d' : List Int), 0 ≤ v ∧ v < many ∧ f__law_take [dk d, .int many] = .ok (.int v) [dk d', .dead] := by
  unfold f__law_take b__law_take
  rcases List.eq_nil_or_concat d with rfl | ⟨xs, x, rfl⟩
  · exact ⟨0, [], Int.le_refl _, m0, by simp_arith [Nat.zero_le, List.map_nil]⟩
  · have h : (xs ++ [x]).map W.int = xs.map W.int ++ [.int x] := by simp
    refine ⟨x % many, xs, Int.emod_nonneg _ (by omega), Int.emod_lt_of_pos _ m0, ?_⟩
    simp_arith [List.concat_eq_append, h, Nat.zero_le, List.append_eq_nil_iff, and_false, m0]
/-! ### keys, tags -/
def keyOk (v : Int) : Prop := v.natAbs < 10 ^ 30
theorem keyOk_of {v : Int} (h1 : -1000000000000000000000000000000 < v) (h2 : v < 1000000000000000000000000000000) : keyOk v := by
  unfold keyOk
  rw [show (10 : Nat) ^ 30 = 1000000000000000000000000000000 by decide]
  omega
/-- a drawn key: one more is a key too -/
def keyD (v : Int) : Prop := -999999999999999999999999999999 < v ∧ v < 999999999999999999999999999999
theorem keyD_of {v : Int} (h1 : -999999999999999999999999999999 < v) (h2 : v < 999999999999999999999999999999) : keyD v := ⟨h1, h2⟩
theorem keyD.ok {v : Int} (h : keyD v) : keyOk v := keyOk_of (by have := h.1; omega) (by have := h.2; omega)
theorem keyD.more {v : Int} (h : keyD v) : keyOk (v + 1) := keyOk_of (by have := h.1; omega) (by have := h.2; omega)
theorem pick_two (b : Bool) (x y : Int) (i : Int) (h : i = 0 ∨ i = 1) : ixW (.lst b [.int x, .int y]) (.int i) = some (.int (if i = 0 then x else y)) := by
  rcases h with rfl | rfl
  · rfl
  · rfl
theorem e_key (d : List Int) : ∃ (v : Int) (d' : List Int), keyD v ∧ f__law_key [dk d] = .ok (.int v) [dk d'] := by
  have lg := line_ge
  have h2 : 2 ≤ sizeLine := by omega
  obtain ⟨way, d1, w0, w1, t1⟩ := e_take d 8 (by decide)
  obtain ⟨num, d2, n0, n1, t2⟩ := e_take d1 64 (by decide)
  unfold f__law_key b__law_key
  by_cases c1 : way < 4
  · exact ⟨num % 6, d2, keyD_of (by omega) (by omega), by simp_arith [t1, t2, c1, Int.reduceLT]⟩
  · by_cases c2 : way = 4
    · subst c2
      exact ⟨0 - num % 6, d2, keyD_of (by omega) (by omega), by simp_arith [t1, t2, Int.reduceLT]⟩
    · by_cases c3 : way = 5
      · subst c3
        exact ⟨num * 1009 - 30000, d2, keyD_of (by omega) (by omega), by simp_arith [t1, t2, Int.reduceLT, Int.reduceEq, mulOk_r (j := 1009) (by decide) (by decide)]⟩
      · obtain ⟨far, hf⟩ : ∃ far : Int, far = 100000000000000000000000000000 * (1 + num % 9) + num * 7919 := ⟨_, rfl⟩
        have k1 : mulOk 100000000000000000000000000000 (1 + num % 9) := mulOk_r (by omega) (by omega)
        have f1 : 0 ≤ far := by omega
        have f2 : far < 999999999999999999999999999999 := by omega
        have pk := pick_two true far (0 - far) (way - 6) (by omega)
        refine ⟨if way - 6 = 0 then far else 0 - far, d2, ?_, ?_⟩
        · split
          · exact keyD_of (by omega) (by omega)
          · exact keyD_of (by omega) (by omega)
        · have pk2 := pick_two false far (0 - far) (way - 6) (by omega)
          simp only [w_ixL] at pk pk2
          simp_arith [t1, t2, c1, c2, c3, ↓powW29, Int.reduceLT, k1, mulOk_r (j := 7919) (by decide) (by decide), ← hf, h2, pk, pk2]
def encRs (rs : List (List Th)) : W := .lst false (rs.map encR)
def abcL : List Nat := (Str.cps "abcdefghijklmnopqrstuvwxyz").toList
def tagOk (z : Str) : Prop := 1 ≤ z.length ∧ z.length ≤ 8 ∧ ∀ c ∈ z.cps.toList, c ∈ abcL
theorem abc26_len : Str.length "abcdefghijklmnopqrstuvwxyz" = 26 := by decide
theorem abc_at (v : Int) (v0 : 0 ≤ v) (v1 : v < 26) : ∃ c : Nat, c ∈ abcL ∧ ixW (.str "abcdefghijklmnopqrstuvwxyz") (.int v) = some (.str ⟨#[c]⟩) := by
  have h : (Str.length "abcdefghijklmnopqrstuvwxyz") ≤ sizeLine := by rw [abc26_len]; have := line_ge; omega
  have hl : (Str.cps "abcdefghijklmnopqrstuvwxyz").toList.length = 26 := by decide
  refine ⟨(Str.cps "abcdefghijklmnopqrstuvwxyz").toList[v.toNat]'(by rw [hl]; omega), List.getElem_mem _, ?_⟩
  show (if (Str.length "abcdefghijklmnopqrstuvwxyz") ≤ sizeLine then (atI (Str.cps "abcdefghijklmnopqrstuvwxyz").toList v).map fun c => W.str ⟨#[c]⟩ else none) = _
  rw [if_pos h, atI_pos _ v0, List.getElem?_eq_getElem (by rw [hl]; omega)]
  rfl
/-- one-sign texts put together -/
theorem join_signs : ∀ cs : List Nat, TL.tl (Txt.join "" (cs.map fun c => (⟨#[c]⟩ : Str))) = cs := by
  intro cs
  rw [TL.join_eq, TL.tl_join]
  have e : TL.tl "" = [] := rfl
  rw [e]
  induction cs with
  | nil => rfl
  | cons c r ih =>
    cases r with
    | nil => rfl
    | cons d r =>
      show [c] ++ ([] ++ TL.joinL [] ((((d :: r).map fun c => (⟨#[c]⟩ : Str))).map TL.tl)) = _
      rw [ih]
      rfl
theorem jn_signs (cs : List Nat) (h : cs.length ≤ 1000) : jnOk "" (cs.map fun c => (⟨#[c]⟩ : Str)) := by
  unfold jnOk
  have e : ((cs.map fun c => (⟨#[c]⟩ : Str)).map (·.length)).sum = cs.length := by
    rw [List.map_map]
    induction cs with
    | nil => rfl
    | cons c r ih =>
      rw [List.map_cons, List.sum_cons, ih (by rw [List.length_cons] at h; omega), List.length_cons]
      show 1 + r.length = _
      omega
  have z : Str.length "" = 0 := rfl
  rw [e, z, List.length_map]
  omega
theorem e_tag (d : List Int) : ∃ (z : Str) (d' : List Int), tagOk z ∧ f__law_tag [dk d] = .ok (.str z) [dk d'] := by
  have lg := line_ge
  have h5 : 5 ≤ sizeLine := by omega
  obtain ⟨num, d1, n0, n1, t1⟩ := e_take d 720720 (by decide)
  unfold f__law_tag b__law_tag
  by_cases c : num % 2 = 0
  · have key : ∃ z : Str, tagOk z ∧ atI [W.str "a", W.str "b", W.str "ab", W.str "zzzzzzzz", W.str "x"] (num / 2 % 5) = some (.str z) := by
      have : num / 2 % 5 = 0 ∨ num / 2 % 5 = 1 ∨ num / 2 % 5 = 2 ∨ num / 2 % 5 = 3 ∨ num / 2 % 5 = 4 := by omega
      rcases this with h | h | h | h | h <;> rw [h]
      · exact ⟨"a", by unfold tagOk; decide, rfl⟩
      · exact ⟨"b", by unfold tagOk; decide, rfl⟩
      · exact ⟨"ab", by unfold tagOk; decide, rfl⟩
      · exact ⟨"zzzzzzzz", by unfold tagOk; decide, rfl⟩
      · exact ⟨"x", by unfold tagOk; decide, rfl⟩
    obtain ⟨z, hz, e⟩ := key
    exact ⟨z, d1, hz, by simp_arith [t1, c, Int.reduceLT, divOk_of (j := 2) (by decide) (by decide), h5, e]⟩
  · obtain ⟨m, hm⟩ : ∃ m : Nat, (m : Int) = 1 + num / 4 % 8 := ⟨(1 + num / 4 % 8).toNat, by omega⟩
    have hr : rngOk (m : Int) := rngOk_of (by omega) (by omega)
    have hc : ∃ cs : List Nat, cs.length = m ∧ (∀ c ∈ cs, c ∈ abcL) ∧ c__law_tag_1 [dk d1, .int num, .str "abcdefghijklmnopqrstuvwxyz", .int m, .dead] = .ok (.lst true ((cs.map fun c => (⟨#[c]⟩ : Str)).map W.str)) [dk d1, .int num, .str "abcdefghijklmnopqrstuvwxyz", .int m, .dead] := by
      have at_ : ∀ j : Nat, ∃ c : Nat, c ∈ abcL ∧ ixW (.str "abcdefghijklmnopqrstuvwxyz") (.int ((num / 2 + (0 + (j : Int)) * (num / 16 + (0 + (j : Int)))) % 26)) = some (.str ⟨#[c]⟩) := fun j =>
        abc_at _ (Int.emod_nonneg _ (by decide)) (Int.emod_lt_of_pos _ (by decide))
      obtain ⟨g, hg⟩ := Classical.axiomOfChoice at_
      refine ⟨(List.range m).map g, by rw [List.length_map, List.length_range], fun c hc => ?_, ?_⟩
      · obtain ⟨j, _, rfl⟩ := List.mem_map.mp hc
        exact (hg j).1
      · unfold c__law_tag_1
        rw [comp_map (fun i : Nat => W.int (0 + (i : Int))) (fun j => W.str ⟨#[g j]⟩) (xs := List.range m) (by simp_arith [hr, rngL_nat, Int.toNat_natCast]) (by rw [List.length_range]; omega) (by
          intro j hj
          have hj2 := List.mem_range.mp hj
          have sp := (hg j).2
          have k0 : mulOk (0 + (j : Int)) (num / 16 + (0 + (j : Int))) := mulOk_l (by omega) (by omega)
          unfold lcOne
          simp_arith [Int.reduceLT, divOk_of (j := 2) (by decide) (by decide), divOk_of (j := 16) (by decide) (by decide), k0, ↓sp])]
        rw [List.map_map, List.map_map]
        rfl
    obtain ⟨cs, l1, l2, hc⟩ := hc
    have tj := join_signs cs
    refine ⟨Txt.join "" (cs.map fun c => (⟨#[c]⟩ : Str)), d1, ⟨?_, ?_, fun c hc => ?_⟩, ?_⟩
    · rw [TL.len_tl, tj]; omega
    · rw [TL.len_tl, tj]; omega
    · have : c ∈ TL.tl (Txt.join "" (cs.map fun c => (⟨#[c]⟩ : Str))) := hc
      rw [tj] at this
      exact l2 c this
    · have jn := jn_signs cs (by omega)
      simp_arith [t1, c, Int.reduceLT, divOk_of (j := 4) (by decide) (by decide), ← hm, hc, w_join jn]
theorem e_whole (i : Int) : f_is_whole_number [.int i] = .ok (.bl true) [.dead] := by
  unfold f_is_whole_number b_is_whole_number
  have h1 : isiW ["int"] (.int i) = some (.bl true) := rfl
  have h2 : isiW ["bool"] (.int i) = some (.bl false) := rfl
  simp_arith [h1, h2]
theorem e_istag (z : Str) (h : tagOk z) : f_is_tag [.str z] = .ok (.bl true) [.dead] := by
  unfold f_is_tag b_is_tag
  have lg := line_ge
  obtain ⟨h1, h2, h3⟩ := h
  have i1 : isiW ["str"] (.str z) = some (.bl true) := rfl
  have hl : lenW (.str z) = some (.int (z.length : Int)) := by
    show (if z.length ≤ sizeLine then some (W.int z.length) else none) = _
    rw [if_pos (by omega)]
  have c1 : c_is_tag_1 [.str z, .dead] = .ok (.lst true []) [.str z, .dead] := by
    unfold c_is_tag_1
    rw [comp_filter (fun c : Nat => W.str ⟨#[c]⟩) (fun _ => false) (fun c : Nat => W.str ⟨#[c]⟩) (xs := z.cps.toList) (by simp_arith []) (by
      have : z.cps.toList.length = z.length := Array.length_toList
      omega) (by
      intro c hc
      have hw : inW true (.str ⟨#[c]⟩) (.str "abcdefghijklmnopqrstuvwxyz") = some (.bl false) := by
        rw [w_inS]
        have : c ∈ (Str.cps "abcdefghijklmnopqrstuvwxyz").toList := h3 c hc
        rw [decide_eq_true this]
        rfl
      unfold lcOne
      simp_arith [hw])]
    simp
  have g1 : (1 : Int) ≤ (z.length : Int) := by omega
  have g2 : (z.length : Int) ≤ 8 := by omega
  simp_arith [i1, hl, w_leX, g1, g2, c1, Nat.zero_le]
theorem e_keyed (t : Th) (h : tagOk t.2) : f_is_keyed [encT t] = .ok (.bl true) [.dead] := by
  unfold f_is_keyed b_is_keyed
  have i1 : isiW ["tuple"] (encT t) = some (.bl true) := rfl
  have i2 : lenW (encT t) = some (.int 2) := rfl
  have i3 : ixW (encT t) (.int 0) = some (.int t.1) := rfl
  have i4 : ixW (encT t) (.int 1) = some (.str t.2) := rfl
  simp_arith [pick_T, i1, i2, i3, i4, e_whole, e_istag t.2 h]
theorem e_isrow (r : List Th) (hl : r.length ≤ 100000) (h : ∀ t ∈ r, tagOk t.2) : f_is_row [encR r] = .ok (.bl true) [.dead] := by
  unfold f_is_row b_is_row
  have lg := line_ge
  have i1 : isiW ["list"] (.lst false (r.map encT)) = some (.bl true) := rfl
  have c1 : c_is_row_1 [.lst false (r.map encT), .dead] = .ok (.lst true []) [.lst false (r.map encT), .dead] := by
    unfold c_is_row_1
    rw [comp_filter encT (fun _ => false) encT (xs := r) (by simp_arith []) (by omega) (by
      intro t ht
      unfold lcOne
      simp_arith [pick_T, e_keyed t (h t ht)])]
    simp
  show fnSem _ _ _ [.lst false (r.map encT)] = _
  simp_arith [i1, c1, Nat.zero_le]
theorem e_arerows (rs : List (List Th)) (z1 : 1 ≤ rs.length) (z2 : rs.length ≤ 6) (hl : ∀ r ∈ rs, r.length ≤ 100000) (h : ∀ r ∈ rs, ∀ t ∈ r, tagOk t.2) : f_are_rows [encRs rs] = .ok (.bl true) [.dead] := by
  unfold f_are_rows b_are_rows
  have lg := line_ge
  have i1 : isiW ["list"] (.lst false (rs.map encR)) = some (.bl true) := rfl
  have c1 : c_are_rows_1 [.lst false (rs.map encR), .dead] = .ok (.lst true []) [.lst false (rs.map encR), .dead] := by
    unfold c_are_rows_1
    rw [comp_filter encR (fun _ => false) encR (xs := rs) (by simp_arith []) (by omega) (by
      intro r hr
      unfold lcOne
      simp_arith [pick_R, e_isrow r (hl r hr) (h r hr)])]
    simp
  have g1 : (1 : Int) ≤ (rs.length : Int) := by omega
  have g2 : (rs.length : Int) ≤ 6 := by omega
  unfold encRs
  simp_arith [i1, w_leX, g1, g2, c1, Nat.zero_le]
/-! ### rows drawn -/
structure RowsT (rs : List (List Th)) : Prop where
  ne : 1 ≤ rs.length
  six : rs.length ≤ 6
  len : ∀ r ∈ rs, r.length ≤ 200
  key : ∀ r ∈ rs, ∀ t ∈ r, keyD t.1 ∧ tagOk t.2
structure RowsOk (rs : List (List Th)) : Prop where
  ne : 1 ≤ rs.length
  six : rs.length ≤ 6
  len : ∀ r ∈ rs, r.length ≤ 200
  key : ∀ r ∈ rs, ∀ t ∈ r, keyOk t.1 ∧ tagOk t.2
theorem RowsT.ok {rs : List (List Th)} (h : RowsT rs) : RowsOk rs := ⟨h.ne, h.six, h.len, fun r hr t ht => ⟨(h.key r hr t ht).1.ok, (h.key r hr t ht).2⟩⟩
theorem e_keys (d : List Int) (most rows hand : W) (many : Nat) (hm : many ≤ 1000) : ∃ (ks : List Int) (d' : List Int), ks.length = many ∧ (∀ k ∈ ks, keyD k) ∧
    c__law_rows_1 [dk d, most, rows, hand, .int (many : Int), .dead, .dead, .dead, .dead] = .ok (.lst true (ks.map W.int)) [dk d', most, rows, hand, .int (many : Int), .dead, .dead, .dead, .dead] := by
  have lg := line_ge
  have hr : rngOk (many : Int) := rngOk_of (by omega) (by omega)
  unfold c__law_rows_1
  obtain ⟨ks, env', g1, ⟨d', rfl⟩, g3, g4⟩ := comp_inv (f := tgN 6) (tt := Sm.ret true) (te := (mCall f__law_key 1 (Sm.bind (mVar 0) fun _ => rIo 0 (rNil)))) (vs := [6]) (mi := iArgs rng1 (mCons (mVar 4) (mNil)))
    (env := [dk d, most, rows, hand, .int (many : Int), .dead, .dead, .dead, .dead]) (env1 := [dk d, most, rows, hand, .int (many : Int), .dead, .dead, .dead, .dead])
    (fun i : Nat => W.int (0 + (i : Int))) W.int keyD (fun n env => ∃ d', env = [dk d', most, rows, hand, .int (many : Int), .dead, .dead, .dead, .dead]) (xs := List.range many)
    (by simp_arith [hr, rngL_nat, Int.toNat_natCast]) ⟨d, rfl⟩ (by rw [List.length_range]; omega) (by
      rintro x hx n env ⟨d', rfl⟩
      obtain ⟨v, d2, hv, e⟩ := e_key d'
      refine ⟨v, [dk d2, most, rows, hand, .int (many : Int), .dead, .dead, .dead, .dead], ?_, hv, d2, rfl⟩
      unfold lcOne
      simp_arith [e])
  exact ⟨ks, d', by rw [g3, List.length_range], g4, g1⟩
theorem e_things (d : List Int) (most rows hand many way : W) (ks : List Int) (hk : ∀ k ∈ ks, keyD k) (hl : ks.length ≤ 1000) : ∃ (r : List Th) (d' : List Int), r.length = ks.length ∧ (∀ t ∈ r, keyD t.1 ∧ tagOk t.2) ∧
    c__law_rows_2 [dk d, most, rows, hand, many, .lst false (ks.map W.int), .dead, way, .dead] = .ok (.lst true (r.map encT)) [dk d', most, rows, hand, many, .lst false (ks.map W.int), .dead, way, .dead] := by
  have lg := line_ge
  have h2 : 2 ≤ sizeLine := by omega
  unfold c__law_rows_2
  obtain ⟨r, env', g1, ⟨d', rfl⟩, g3, g4⟩ := comp_inv (f := tgN 8) (tt := Sm.ret true) (te := (mArgs tupW (mCons (mVar 8) (mCons (mCall f__law_tag 1 (Sm.bind (mVar 0) fun _ => rIo 0 (rNil))) (mNil))))) (vs := [8]) (mi := iLst (mVar 5))
    (env := [dk d, most, rows, hand, many, .lst false (ks.map W.int), .dead, way, .dead]) (env1 := [dk d, most, rows, hand, many, .lst false (ks.map W.int), .dead, way, .dead])
    W.int encT (fun t => keyD t.1 ∧ tagOk t.2) (fun n env => ∃ d', env = [dk d', most, rows, hand, many, .lst false (ks.map W.int), .dead, way, .dead]) (xs := ks)
    (by simp_arith []) ⟨d, rfl⟩ (by omega) (by
      rintro x hx n env ⟨d', rfl⟩
      obtain ⟨z, d2, hz, e⟩ := e_tag d'
      refine ⟨(x, z), [dk d2, most, rows, hand, many, .lst false (ks.map W.int), .dead, way, .dead], ?_, ⟨hk x hx, hz⟩, d2, rfl⟩
      unfold lcOne
      simp_arith [e, h2]
      rfl)
  exact ⟨r, d', g3, g4, g1⟩
theorem pick_four (b : Bool) (x : Int) (i : Int) (h0 : 0 ≤ i) (h4 : i < 4) : ∃ m : Nat, ((m : Int) = 1 ∨ (m : Int) = x ∨ (m : Int) = 4 ∨ x < 0) ∧ (0 ≤ x → atI [W.int 1, W.int x, W.int 4, W.int x] i = some (.int (m : Int))) := by
  have : i = 0 ∨ i = 1 ∨ i = 2 ∨ i = 3 := by omega
  by_cases hx : 0 ≤ x
  · obtain ⟨n, rfl⟩ : ∃ n : Nat, x = n := ⟨x.toNat, by omega⟩
    rcases this with h | h | h | h <;> rw [h]
    · exact ⟨1, .inl rfl, fun _ => rfl⟩
    · exact ⟨n, .inr (.inl rfl), fun _ => rfl⟩
    · exact ⟨4, .inr (.inr (.inl rfl)), fun _ => rfl⟩
    · exact ⟨n, .inr (.inl rfl), fun _ => rfl⟩
  · exact ⟨0, .inr (.inr (.inr (by omega))), fun h => absurd h hx⟩
/-- the keys, sorted, alike, or as drawn -/
theorem e_keys3 (ks : List Int) (hk : ∀ k ∈ ks, keyD k) (m : Nat) (hm : m ≤ 1000) (hl : ks.length ≤ m) : (∀ k ∈ ks.mergeSort (fun a b => decide (a ≤ b)), keyD k) ∧ (ks.mergeSort (fun a b => decide (a ≤ b))).length ≤ m ∧
    (∀ k ∈ (List.replicate m (ks.take 1)).flatten, keyD k) ∧ (List.replicate m (ks.take 1)).flatten.length ≤ m := by
  refine ⟨fun k h => hk k ((List.mergeSort_perm ks _).mem_iff.mp h), by rw [List.length_mergeSort]; exact hl, fun k h => ?_, ?_⟩
  · obtain ⟨l, h1, h2⟩ := List.mem_flatten.mp h
    rw [(List.mem_replicate.mp h1).2] at h2
    exact hk k (List.mem_of_mem_take h2)
  · rw [List.length_flatten, List.map_replicate, List.sum_replicate_nat, List.length_take]
    have : min 1 ks.length ≤ 1 := by omega
    calc m * min 1 ks.length ≤ m * 1 := Nat.mul_le_mul_left _ this
      _ = m := Nat.mul_one _
theorem rows_turn (d : List Int) (most : Nat) (hm : most ≤ 190) (rs : List (List Th)) (hr : rs.length ≤ 100) (i : Nat) : ∃ (r : List Th) (d' : List Int), r.length ≤ max 4 (most + 1) ∧ (∀ t ∈ r, keyD t.1 ∧ tagOk t.2) ∧
    turn (tgN 3) b__law_rows_1 [3, 4, 5, 7] (W.int (0 + (i : Int))) [dk d, .int (most : Int), .lst true (rs.map encR), .dead, .dead, .dead, .dead, .dead, .dead] = .ok .nx [dk d', .int (most : Int), .lst true ((rs ++ [r]).map encR), .dead, .dead, .dead, .dead, .dead, .dead] := by
  have lg := line_ge
  have h4 : 4 ≤ sizeLine := by omega
  obtain ⟨v, d1, v0, v1, t1⟩ := e_take d 4 (by decide)
  obtain ⟨x, hx1, hx2⟩ := pick_four true ((most : Int) + 1) v v0 v1
  have hx := hx2 (by omega)
  have x1 : 1 ≤ x := by omega
  obtain ⟨u, d2, u0, u1, t2⟩ := e_take d1 (x : Int) (by omega)
  obtain ⟨many, rfl⟩ : ∃ n : Nat, u = n := ⟨u.toNat, by omega⟩
  have hmany : many ≤ 1000 := by omega
  obtain ⟨ks, d3, k1, k2, c1⟩ := e_keys d2 (.int (most : Int)) (.lst true (rs.map encR)) (.int (0 + (i : Int))) many hmany
  obtain ⟨way, d4, w0, w1, t3⟩ := e_take d3 4 (by decide)
  have k3 := e_keys3 ks k2 many hmany (by omega)
  have kf : ∃ ks' : List Int, ks'.length ≤ many ∧ (∀ k ∈ ks', keyD k) ∧ (way = 1 → ks' = ks.mergeSort (fun a b => decide (a ≤ b))) ∧ (way = 2 → ks' = (List.replicate many (ks.take 1)).flatten) ∧ (way ≠ 1 → way ≠ 2 → ks' = ks) := by
    by_cases h1 : way = 1
    · exact ⟨_, k3.2.1, k3.1, fun _ => rfl, fun h => by omega, fun h => absurd h1 h⟩
    · by_cases h2 : way = 2
      · exact ⟨_, k3.2.2.2, k3.2.2.1, fun h => absurd h h1, fun _ => rfl, fun _ h => absurd h2 h⟩
      · exact ⟨ks, by omega, k2, fun h => absurd h h1, fun h => absurd h h2, fun _ _ => rfl⟩
  obtain ⟨ks', l1, l2, q1, q2, q3⟩ := kf
  obtain ⟨r, d5, r1, r2, c2⟩ := e_things d4 (.int (most : Int)) (.lst true (rs.map encR)) (.int (0 + (i : Int))) (.int (many : Int)) (.int way) ks' l2 (by omega)
  refine ⟨r, d5, by omega, r2, ?_⟩
  have er : (rs ++ [r]).map encR = rs.map encR ++ [.lst false (r.map encT)] := by rw [List.map_append]; rfl
  have hz : rs.length < sizeLine := by omega
  unfold b__law_rows_1 turn
  by_cases w1 : way = 1
  · have e1 := q1 w1
    subst w1
    subst e1
    have so := sortedW_int false false ks (by omega)
    simp_arith [t1, h4, hx, t2, c1, t3, so, Int.reduceEq, c2, er, hz]
  · by_cases w2 : way = 2
    · have e2 := q2 w2
      subst w2
      subst e2
      have ct : cutL (ks.map W.int) none (some 1) = (ks.take 1).map W.int := by
        rw [show (1 : Int) = ((1 : Nat) : Int) from rfl, cut_takeN, List.map_take]
      have rp : repOk ((ks.take 1).map W.int).length (many : Int) := by
        refine ⟨by omega, by omega, ?_⟩
        rw [List.length_map, List.length_take, Int.toNat_natCast]
        calc min 1 ks.length * many ≤ 1 * many := Nat.mul_le_mul_right _ (by omega)
          _ ≤ sizeLine := by omega
      have fl : (List.replicate many ((ks.take 1).map W.int)).flatten = ((List.replicate many (ks.take 1)).flatten).map W.int := by
        rw [List.map_flatten, List.map_replicate]
      have mw : mulW false (.lst false ((ks.take 1).map W.int)) (.int (many : Int)) = some (.lst false (((List.replicate many (ks.take 1)).flatten).map W.int)) := by
        rw [w_rep, if_pos rp, Int.toNat_natCast, fl]
      simp_arith [t1, h4, hx, t2, c1, t3, Int.reduceEq, ct, ↓mw, c2, er, hz]
    · have e3 := q3 w1 w2
      subst e3
      simp_arith [t1, h4, hx, t2, c1, t3, w1, w2, c2, er, hz]
theorem e_rows (d : List Int) (most : Nat) (hm : most ≤ 190) : ∃ (rs : List (List Th)) (d' : List Int), RowsT rs ∧ (∀ r ∈ rs, r.length ≤ max 4 (most + 1)) ∧ f__law_rows [dk d, .int (most : Int)] = .ok (.lst true (rs.map encR)) [dk d', .dead] := by
  have lg := line_ge
  obtain ⟨v, d1, v0, v1, t1⟩ := e_take d 6 (by decide)
  obtain ⟨hs, hv⟩ : ∃ hs : Nat, (hs : Int) = 1 + v := ⟨(1 + v).toNat, by omega⟩
  have hr : rngOk (hs : Int) := rngOk_of (by omega) (by omega)
  obtain ⟨env', e1, rs, d', q1, q2, rfl⟩ := mFor_inv (f := tgN 3) (body := b__law_rows_1) (kill := [3, 4, 5, 7]) (xs := List.range hs) (fun i : Nat => W.int (0 + (i : Int)))
    (fun n env => ∃ (rs : List (List Th)) (d' : List Int), rs.length + n = hs ∧ (∀ r ∈ rs, r.length ≤ max 4 (most + 1) ∧ ∀ t ∈ r, keyD t.1 ∧ tagOk t.2) ∧ env = [dk d', .int (most : Int), .lst true (rs.map encR), .dead, .dead, .dead, .dead, .dead, .dead])
    (env := [dk d1, .int (most : Int), .lst true [], .dead, .dead, .dead, .dead, .dead, .dead]) ⟨[], d1, by simp, (fun r h => nomatch h), rfl⟩ (by
    rintro i hi n env ⟨rs, d', q1, q2, rfl⟩
    obtain ⟨r, d2, r1, r2, ht⟩ := rows_turn d' most hm rs (by omega) i
    refine ⟨_, ht, rs ++ [r], d2, by rw [List.length_append, List.length_singleton]; omega, fun x hx => ?_, rfl⟩
    rcases List.mem_append.mp hx with h | h
    · exact q2 x h
    · rw [List.mem_singleton.mp h]; exact ⟨r1, r2⟩)
  refine ⟨rs, d', ⟨by omega, by omega, fun r hr => ?_, fun r hr => (q2 r hr).2⟩, fun r hr => (q2 r hr).1, ?_⟩
  · have := (q2 r hr).1
    omega
  · unfold f__law_rows b__law_rows
    simp_arith [t1, ← hv, hr, rngL_nat, Int.toNat_natCast, Nat.zero_le, e1]
/-! ### rows written -/
def thS (t : Th) : Str := keyS t.1 ++ ":" ++ t.2
def rowS (r : List Th) : Str := if r = [] then "-" else Txt.join ", " (r.map thS)
def rowsS (rs : List (List Th)) : Str := Txt.join "; " (rs.map rowS)
def thOk (t : Th) : Prop := keyOk t.1 ∧ tagOk t.2
theorem keyS_len (k : Int) (h : keyOk k) : (keyS k).length ≤ 31 := by
  rw [TL.len_tl, tl_key]
  exact keyL_len k h
theorem colon_len : Str.length ":" = 1 := rfl
theorem comma_len : Str.length ", " = 2 := rfl
theorem semi_len : Str.length "; " = 2 := rfl
theorem thS_len (t : Th) (h : thOk t) : (thS t).length ≤ 40 := by
  have h1 := keyS_len t.1 h.1
  have h2 := h.2.2.1
  unfold thS
  rw [Str.length_append, Str.length_append, colon_len]
  omega
theorem sum_le (n : Nat) : ∀ ys : List Str, (∀ y ∈ ys, y.length ≤ n) → (ys.map (·.length)).sum ≤ ys.length * n
  | [], _ => by simp
  | y :: ys, h => by
    have h1 := h y List.mem_cons_self
    have h2 := sum_le n ys fun x hx => h x (List.mem_cons_of_mem _ hx)
    rw [List.map_cons, List.sum_cons, List.length_cons, Nat.succ_mul]
    omega
theorem txt_join_len (a : Str) (ys : List Str) : (Txt.join a ys).length ≤ (ys.map (·.length)).sum + ys.length * a.length := by
  have h := join_len (TL.tl a) (ys.map TL.tl)
  rw [TL.len_tl, TL.join_eq, TL.tl_join]
  have e : ((ys.map TL.tl).map List.length).sum = (ys.map (·.length)).sum := by
    rw [List.map_map]
    congr 1
  rw [e, List.length_map] at h
  rw [TL.len_tl a]
  split at h
  · omega
  · omega
theorem row_jn (r : List Th) (h : ∀ t ∈ r, thOk t) (hl : r.length ≤ 300) : jnOk ", " (r.map thS) := by
  unfold jnOk
  have h1 := sum_le 40 (r.map thS) fun y hy => by
    obtain ⟨t, ht, rfl⟩ := List.mem_map.mp hy
    exact thS_len t (h t ht)
  rw [comma_len]
  rw [List.length_map] at h1 ⊢
  omega
theorem rowS_len (r : List Th) (h : ∀ t ∈ r, thOk t) (hl : r.length ≤ 300) : (rowS r).length ≤ 12600 := by
  unfold rowS
  split
  · show 1 ≤ 12600
    omega
  · have h1 := sum_le 40 (r.map thS) fun y hy => by
      obtain ⟨t, ht, rfl⟩ := List.mem_map.mp hy
      exact thS_len t (h t ht)
    have h2 := txt_join_len ", " (r.map thS)
    rw [comma_len] at h2
    rw [List.length_map] at h1 h2
    omega
theorem rows_jn (rs : List (List Th)) (h : ∀ r ∈ rs, ∀ t ∈ r, thOk t) (hl : ∀ r ∈ rs, r.length ≤ 300) (h8 : rs.length ≤ 100) : jnOk "; " (rs.map rowS) := by
  unfold jnOk
  have h1 := sum_le 12600 (rs.map rowS) fun y hy => by
    obtain ⟨t, ht, rfl⟩ := List.mem_map.mp hy
    exact rowS_len t (h t ht) (hl t ht)
  rw [semi_len]
  rw [List.length_map] at h1 ⊢
  omega
theorem rowsS_len (rs : List (List Th)) (h : ∀ r ∈ rs, ∀ t ∈ r, thOk t) (hl : ∀ r ∈ rs, r.length ≤ 300) (h8 : rs.length ≤ 70) : (rowsS rs).length ≤ 900000 := by
  unfold rowsS
  have h1 := sum_le 12600 (rs.map rowS) fun y hy => by
    obtain ⟨t, ht, rfl⟩ := List.mem_map.mp hy
    exact rowS_len t (h t ht) (hl t ht)
  have h2 := txt_join_len "; " (rs.map rowS)
  rw [semi_len] at h2
  rw [List.length_map] at h1 h2
  omega
theorem th_ix0 (t : Th) : ixW (encT t) (.int 0) = some (.int t.1) := rfl
theorem th_ix1 (t : Th) : ixW (encT t) (.int 1) = some (.str t.2) := rfl
theorem keyOk_log {k : Int} (h : keyOk k) : k.natAbs < 2 ^ 1900 := Nat.lt_of_lt_of_le h (by decide)
theorem w_thS (b c : Bool) (t : Th) (h : thOk t) : addW b (.str (keyS t.1)) (.str ":") = some (.str (keyS t.1 ++ ":")) ∧ addW c (.str (keyS t.1 ++ ":")) (.str t.2) = some (.str (thS t)) := by
  have lg := line_ge
  have h1 := keyS_len t.1 h.1
  have h2 := h.2.2.1
  have h3 := colon_len
  exact ⟨w_addZ _ _ _ (by omega), w_addZ _ _ _ (by rw [Str.length_append]; omega)⟩
theorem e_show_thing (t : Th) (h : thOk t) : f_show_thing [encT t] = .ok (.str (thS t)) [.dead] := by
  unfold f_show_thing b_show_thing
  have w := w_thS true true t h
  simp_arith [pick_T, th_ix0, th_ix1, w_strOf t.1 (keyOk_log h.1), w.1, w.2]
theorem e_show_row (r : List Th) (h : ∀ t ∈ r, thOk t) (hl : r.length ≤ 300) : f_show_row [encR r] = .ok (.str (rowS r)) [.dead] := by
  unfold f_show_row b_show_row encR
  have lg := line_ge
  by_cases c : r = []
  · subst c
    simp_arith [Nat.zero_le, List.map_nil, rowS]
  · have c2 : ¬ r.map encT = [] := by simpa using c
    have hc : c_show_row_1 [.lst false (r.map encT), .dead] = .ok (.lst true ((r.map thS).map W.str)) [.lst false (r.map encT), .dead] := by
      unfold c_show_row_1
      rw [comp_map encT (fun t => W.str (thS t)) (xs := r) (by simp_arith []) (by omega) (by
        intro t ht
        unfold lcOne
        simp_arith [pick_T, e_show_thing t (h t ht)]), List.map_map]
      rfl
    have es : rowS r = Txt.join ", " (r.map thS) := by unfold rowS; rw [if_neg c]
    rw [es]
    simp_arith [Nat.zero_le, c2, hc, w_join (row_jn r h hl)]
theorem e_show_rows (rs : List (List Th)) (h : ∀ r ∈ rs, ∀ t ∈ r, thOk t) (hl : ∀ r ∈ rs, r.length ≤ 300) (h8 : rs.length ≤ 100) : f_show_rows [encRs rs] = .ok (.str (rowsS rs)) [.dead] := by
  unfold f_show_rows b_show_rows encRs
  have lg := line_ge
  have hc : c_show_rows_1 [.lst false (rs.map encR), .dead] = .ok (.lst true ((rs.map rowS).map W.str)) [.lst false (rs.map encR), .dead] := by
    unfold c_show_rows_1
    rw [comp_map encR (fun r => W.str (rowS r)) (xs := rs) (by simp_arith []) (by omega) (by
      intro r hr
      unfold lcOne
      simp_arith [pick_R, e_show_row r (h r hr) (hl r hr)]), List.map_map]
    rfl
  simp_arith [hc, w_join (rows_jn rs h hl h8), rowsS]
abbrev cNT : Nat := 1
/-! ### texts read -/
open TL in
theorem fig_filter (F : List Nat) : (F.filter fun c => !isFig c) = [] ↔ ∀ c ∈ F, isFig c = true := by
  rw [List.filter_eq_nil_iff]
  constructor
  · intro h c hc
    have := h c hc
    simpa using this
  · intro h c hc
    simp [h c hc]
theorem e_kf1 (z y : Str) (h : y.length ≤ 1000000) : c_key_from_1 [.str z, .str y, .dead] = .ok (.lst true (((TL.tl y).filter fun c => !isFig c).map fun c => W.str ⟨#[c]⟩)) [.str z, .str y, .dead] := by
  unfold c_key_from_1
  have lg := line_ge
  exact comp_filter (fun c : Nat => W.str ⟨#[c]⟩) (fun c => !isFig c) (fun c : Nat => W.str ⟨#[c]⟩) (xs := TL.tl y) (by simp_arith []) (by rw [← TL.len_tl]; omega) (by
    intro c hc
    have hw : inW true (.str ⟨#[c]⟩) (.str "0123456789") = some (.bl (!isFig c)) := by
      rw [w_inS, ← fig_mem c]
      simp
    unfold lcOne
    simp_arith [hw]
    cases isFig c <;> rfl)
open Classical in
theorem e_keyfrom (z : Str) (hz : z.length ≤ 900000) : f_key_from [.str z] = if OkKey (TL.tl z) then .ok (.int (keyV (TL.tl z))) [.dead] else .ex cNT [.dead] := by
  have lg := line_ge
  obtain ⟨F, hF⟩ : ∃ F, F = figsL (TL.tl z) := ⟨_, rfl⟩
  have cut1 : cutW false (.str z) none (some 1) = some (.str (cutS z none (some 1))) := w_cutZ _ _ _ _ (by omega)
  have cut2 : cutW false (.str z) (some 1) none = some (.str (cutS z (some 1) none)) := w_cutZ _ _ _ _ (by omega)
  have dash : decide (cutS z none (some 1) = "-") = decide ((TL.tl z).take 1 = [45]) := by
    rw [str_dec, tl_take1]
    rfl
  have full : ∃ y : Str, TL.tl y = F ∧ y.length ≤ z.length ∧ (if (TL.tl z).take 1 = [45] then y = cutS z (some 1) none else y = z) := by
    by_cases c : (TL.tl z).take 1 = [45]
    · refine ⟨cutS z (some 1) none, by rw [hF, tl_drop1]; unfold figsL; rw [if_pos c], ?_, by rw [if_pos c]⟩
      rw [TL.len_tl, tl_drop1, TL.len_tl z, List.length_drop]
      omega
    · exact ⟨z, by rw [hF]; unfold figsL; rw [if_neg c], Nat.le_refl _, by rw [if_neg c]⟩
  obtain ⟨y, y1, y2, y3⟩ := full
  have yl := TL.len_tl y
  rw [y1] at yl
  have hc := e_kf1 z y (by omega)
  rw [y1] at hc
  have eA : eqW (.str y) (.str "") = some (.bl (decide (F = []))) := by
    rw [eqW_str, str_dec, y1]
    rfl
  have eL : lenW (.str y) = some (.int (F.length : Int)) := by rw [w_lenS y (by omega), yl]
  have eE : eqW (.str z) (.str "-0") = some (.bl (decide (TL.tl z = [45, 48]))) := by
    rw [eqW_str, str_dec]
    rfl
  have neC : neW (.lst false ((F.filter fun c => !isFig c).map fun c => W.str ⟨#[c]⟩)) (.lst false []) = some (.bl (!decide ((F.filter fun c => !isFig c) = []))) := by
    rw [neW_nil]
    congr 3
    rw [Bool.eq_iff_iff, decide_eq_true_eq, decide_eq_true_eq]
    exact List.map_eq_nil_iff
  have head : ∀ c, F[0]? = some c → ixW (.str y) (.int 0) = some (.str ⟨#[c]⟩) := fun c h => w_ixZ y 0 c (by omega) (by rw [y1]; exact h)
  have headE : ∀ c : Nat, eqW (.str ⟨#[c]⟩) (.str "0") = some (.bl (decide (c = 48))) := fun c => by
    rw [eqW_str, str_dec]
    congr 2
    rw [Bool.eq_iff_iff, decide_eq_true_eq, decide_eq_true_eq]
    show [c] = [48] ↔ _
    simp
  unfold f_key_from b_key_from
  by_cases d : (TL.tl z).take 1 = [45]
  all_goals
    first
      | (rw [if_pos d] at y3; rw [← y3] at cut2)
      | (rw [if_neg d] at y3; replace y3 := y3.symm; subst y3)
    by_cases a : F = []
    · have no : ¬ OkKey (TL.tl z) := fun k => k.ne (by rw [← hF]; exact a)
      rw [if_neg no]
      simp_arith [cut1, cut2, ↓dash, d, eA, a]
    · by_cases b : 30 < F.length
      · have no : ¬ OkKey (TL.tl z) := fun k => by have := k.len; rw [← hF] at this; omega
        have b' : (30 : Int) < (F.length : Int) := by omega
        rw [if_neg no]
        simp_arith [cut1, cut2, ↓dash, d, eA, a, eL, b']
      · have b' : ¬ (30 : Int) < (F.length : Int) := by omega
        by_cases c : (F.filter fun c => !isFig c) = []
        · have hfig := (fig_filter F).mp c
          by_cases e : 1 < F.length ∧ F[0]? = some 48
          · have no : ¬ OkKey (TL.tl z) := fun k => k.led (by rw [← hF]; exact e)
            have e1 : (1 : Int) < (F.length : Int) := by omega
            have e2 := head 48 e.2
            rw [if_neg no]
            simp_arith [cut1, cut2, ↓dash, d, eA, a, eL, b', hc, Nat.zero_le, List.map_nil, List.map_eq_nil_iff, c, e1, e2, headE]
          · by_cases g : TL.tl z = [45, 48]
            · have no : ¬ OkKey (TL.tl z) := fun k => k.neg g
              have eE1 : eqW (.str z) (.str "-0") = some (.bl true) := by rw [eE, decide_eq_true g]
              rw [if_neg no]
              by_cases e1 : 1 < F.length
              · have e1' : (1 : Int) < (F.length : Int) := by omega
                have e0 : F[0]? = some F[0] := List.getElem?_eq_getElem (by omega)
                have e2 := head _ e0
                have e3 : ¬ F[0] = 48 := fun h => e ⟨e1, by rw [e0, h]⟩
                simp_arith [cut1, cut2, ↓dash, d, eA, a, eL, b', hc, Nat.zero_le, List.map_nil, List.map_eq_nil_iff, c, e1', e2, headE, e3, eE1]
              · have e1' : ¬ (1 : Int) < (F.length : Int) := by omega
                simp_arith [cut1, cut2, ↓dash, d, eA, a, eL, b', hc, Nat.zero_le, List.map_nil, List.map_eq_nil_iff, c, e1', eE1]
            · have ok : OkKey (TL.tl z) := ⟨by rw [← hF]; exact a, by rw [← hF]; omega, by rw [← hF]; exact hfig, by rw [← hF]; exact e, g⟩
              obtain ⟨i1, i2⟩ := ok.int
              have ti := w_toIntS z _ (by omega) i1
              rw [if_pos ok]
              by_cases e1 : 1 < F.length
              · have e1' : (1 : Int) < (F.length : Int) := by omega
                have e0 : F[0]? = some F[0] := List.getElem?_eq_getElem (by omega)
                have e2 := head _ e0
                have e3 : ¬ F[0] = 48 := fun h => e ⟨e1, by rw [e0, h]⟩
                simp_arith [cut1, cut2, ↓dash, d, eA, a, eL, b', hc, Nat.zero_le, List.map_nil, List.map_eq_nil_iff, c, e1', e2, headE, e3, eE, g, ti]
              · have e1' : ¬ (1 : Int) < (F.length : Int) := by omega
                simp_arith [cut1, cut2, ↓dash, d, eA, a, eL, b', hc, Nat.zero_le, List.map_nil, List.map_eq_nil_iff, c, e1', eE, g, ti]
        · have no : ¬ OkKey (TL.tl z) := fun k => c ((fig_filter F).mpr (by rw [hF]; exact k.fig))
          rw [if_neg no]
          simp_arith [cut1, cut2, ↓dash, d, eA, a, eL, b', hc, Nat.zero_le, List.map_nil, List.map_eq_nil_iff, c]
/-! ### lists of lists, changed -/
def encO (r : List Th) : W := .lst true (r.map encT)
theorem fz_nst (rs : List (List Th)) : (W.nst (rs.map encO)).fzD = .lst false (rs.map encR) := by
  rw [W.fzD, fzDs_map, List.map_map]
  rfl
theorem fzOks_all : ∀ ws : List W, (∀ w ∈ ws, w.fzOk = true) → fzOks ws = true
  | [], _ => rfl
  | w :: ws, h => by rw [fzOks, h w List.mem_cons_self, fzOks_all ws fun x hx => h x (List.mem_cons_of_mem _ hx)]; rfl
theorem ok_nst (rs : List (List Th)) : (W.nst (rs.map encO)).fzOk = true := by
  rw [W.fzOk]
  refine fzOks_all _ fun w hw => ?_
  obtain ⟨r, _, rfl⟩ := List.mem_map.mp hw
  rfl
theorem ok_lst (b : Bool) (ws : List W) : (W.lst b ws).fzOk = true := rfl
theorem fzd_lst (b : Bool) (ws : List W) : (W.lst b ws).fzD = .lst false ws := rfl
theorem ixN_last (n : Nat) : ixN (n + 1) (-1) = some n := by
  unfold ixN
  rw [if_neg (by omega), if_pos (by omega)]
  congr 1
  omega
theorem r_mutN_last {env : List W} (i : Nat) (ds : List W) (xs : List W) (w : W) (m : Sm (List W)) (h1 : env[i]? = some (.nst (ds ++ [.lst true xs]))) (h2 : m env = .ok [w] env) (h3 : xs.length < sizeLine) :
    mMutN i fAppend (mUn negW (mC (.int 1))) m env = .ok .non (env.set i (.nst (ds ++ [.lst true (xs ++ [w])]))) := by
  have e1 : mUn negW (mC (.int 1)) env = .ok (.int (-1)) env := rfl
  have e2 : (ds ++ [W.lst true xs])[ds.length]? = some (.lst true xs) := by rw [List.getElem?_append_right (Nat.le_refl _)]; simp
  have e3 : fAppend xs [w] = some (.non, xs ++ [w]) := by
    show (if xs.length < sizeLine then some (W.non, xs ++ [w]) else none) = _
    rw [if_pos h3]
  have e4 : (ds ++ [W.lst true xs]).set ds.length (.lst true (xs ++ [w])) = ds ++ [.lst true (xs ++ [w])] := by
    rw [List.set_append_right _ _ (Nat.le_refl _)]
    simp
  unfold mMutN
  rw [h1]
  dsimp only
  rw [e1]
  dsimp only
  rw [List.length_append, List.length_singleton, ixN_last]
  dsimp only
  rw [e2]
  dsimp only
  rw [h2]
  dsimp only
  rw [e3]
  dsimp only
  rw [e4]
theorem joinL_flat (S : List Nat) (p : List Nat) : ∀ ps : List (List Nat), TL.joinL S (p :: ps) = p ++ (ps.flatMap fun q => S ++ q)
  | [] => by simp [TL.joinL]
  | q :: r => by
    show p ++ (S ++ TL.joinL S (q :: r)) = _
    rw [joinL_flat S q r, List.flatMap_cons, List.append_assoc]
theorem lendE_of {i : Nat} {m : Sm W} {env env' : List W} {w0 w : W} (h0 : env[i]? = some w0) (hf : w0.fzOk = true) (hm : m (env.set i w0.fzD) = .ok w env') (ht : thinE w = true) : mLendE i m env = .ok w env := by
  rw [r_lendE, h0]
  dsimp only
  rw [if_pos hf, hm]
  dsimp only
  rw [if_pos ht]
/-! ### what is written, read -/
theorem sp_ok (a s : Str) (h1 : s.length ≠ 0) (h : a.length ≤ 999990) : spOk a s := ⟨by simpa using h1, by have := line_ge; omega⟩
theorem colon_ne : Str.length ":" ≠ 0 := by decide
theorem comma_ne : Str.length ", " ≠ 0 := by decide
theorem semi_ne : Str.length "; " ≠ 0 := by decide
theorem e_thingfrom (t : Th) (h : thOk t) : f_thing_from [.str (thS t)] = .ok (encT t) [.dead] := by
  have lg := line_ge
  have hl := thS_len t h
  have pa : Txt.partition (thS t) ":" = (keyS t.1, (":" : Str), t.2) := TL.partition_app (S := []) (s := 58) rfl (by rw [tl_key]; exact keyL_free (by decide) (by decide) _)
  have kf := e_keyfrom (keyS t.1) (by have := keyS_len t.1 h.1; omega)
  have ok := ok_key t.1 h.1
  rw [tl_key, if_pos ok.1, ok.2] at kf
  have h3 : 3 ≤ sizeLine := by omega
  have h2 : 2 ≤ sizeLine := by omega
  have pw : partW (.str (thS t)) [.str ":"] = some (.tup [.str (keyS t.1), .str ":", .str t.2]) := by
    rw [w_part (sp_ok _ _ colon_ne (by omega)), pa]
  unfold f_thing_from b_thing_from
  simp_arith [pw, tgL, kf, h2]
  rfl
theorem abc_range {c : Nat} (h : c ∈ abcL) : 97 ≤ c ∧ c ≤ 122 := by
  have e : abcL = [97, 98, 99, 100, 101, 102, 103, 104, 105, 106, 107, 108, 109, 110, 111, 112, 113, 114, 115, 116, 117, 118, 119, 120, 121, 122] := by decide
  rw [e] at h
  simp only [List.mem_cons, List.not_mem_nil, or_false] at h
  omega
theorem thS_free {s : Nat} (h1 : s ≠ 45) (h2 : s < 48 ∨ 57 < s) (h3 : s ≠ 58) (h4 : s < 97) (t : Th) (h : thOk t) : s ∉ TL.tl (thS t) := by
  unfold thS
  rw [TL.tl_append, TL.tl_append, tl_key]
  intro z
  rcases List.mem_append.mp z with z | z
  · rcases List.mem_append.mp z with z | z
    · exact keyL_free h1 h2 _ z
    · exact h3 (List.mem_singleton.mp z)
  · have := abc_range (h.2.2.2 s z)
    omega
theorem thS_colon (t : Th) : 58 ∈ TL.tl (thS t) := by
  unfold thS
  rw [TL.tl_append, TL.tl_append]
  exact List.mem_append_left _ (List.mem_append_right _ (List.mem_singleton.mpr rfl))
theorem tl_rowS (r : List Th) (hr : r ≠ []) : TL.tl (rowS r) = TL.joinL [44, 32] ((r.map thS).map TL.tl) := by
  unfold rowS
  rw [if_neg hr, TL.join_eq, TL.tl_join]
  rfl
theorem joinL_mem {S : List Nat} {x : Nat} : ∀ {ps : List (List Nat)}, x ∈ TL.joinL S ps → x ∈ S ∨ ∃ p ∈ ps, x ∈ p
  | [], h => nomatch h
  | [p], h => .inr ⟨p, List.mem_cons_self, h⟩
  | p :: q :: r, h => by
    have h' : x ∈ p ++ (S ++ TL.joinL S (q :: r)) := h
    rcases List.mem_append.mp h' with z | z
    · exact .inr ⟨p, List.mem_cons_self, z⟩
    · rcases List.mem_append.mp z with y | y
      · exact .inl y
      · rcases joinL_mem y with u | ⟨p', h1, h2⟩
        · exact .inl u
        · exact .inr ⟨p', List.mem_cons_of_mem _ h1, h2⟩
theorem rowS_free {s : Nat} (h0 : s ≠ 45) (h2 : s < 48 ∨ 57 < s) (h3 : s ≠ 58) (h4 : s < 97) (h5 : s ≠ 44) (h6 : s ≠ 32) (r : List Th) (h : ∀ t ∈ r, thOk t) : s ∉ TL.tl (rowS r) := by
  by_cases c : r = []
  · subst c
    intro z
    have : s ∈ [45] := z
    exact h0 (List.mem_singleton.mp this)
  · rw [tl_rowS r c]
    intro z
    rcases joinL_mem z with y | ⟨p, h1, h2'⟩
    · simp only [List.mem_cons, List.not_mem_nil, or_false] at y
      omega
    · obtain ⟨q, hq, rfl⟩ := List.mem_map.mp h1
      obtain ⟨t, ht, rfl⟩ := List.mem_map.mp hq
      exact thS_free h0 h2 h3 h4 t (h t ht) h2'
theorem rowS_dash (r : List Th) : decide (rowS r = "-") = decide (r = []) := by
  rw [Bool.eq_iff_iff, decide_eq_true_eq, decide_eq_true_eq]
  constructor
  · intro e
    by_cases c : r = []
    · exact c
    · exfalso
      have e2 : TL.tl (rowS r) = [45] := by rw [e]; rfl
      rw [tl_rowS r c] at e2
      cases r with
      | nil => exact c rfl
      | cons t r =>
        rw [List.map_cons, List.map_cons, joinL_flat] at e2
        have := thS_colon t
        have m : 58 ∈ [45] := by rw [← e2]; exact List.mem_append_left _ this
        simp at m
  · rintro rfl
    rfl
theorem split_row (r : List Th) (hr : r ≠ []) (h : ∀ t ∈ r, thOk t) : Txt.split (rowS r) ", " = r.map thS := by
  unfold rowS
  rw [if_neg hr]
  refine TL.split_join (s := 44) (S := [32]) rfl (by decide +kernel) (by simpa using hr) fun p hp => ?_
  obtain ⟨t, ht, rfl⟩ := List.mem_map.mp hp
  exact thS_free (by decide) (by decide) (by decide) (by decide) t (h t ht)
theorem split_rows (rs : List (List Th)) (hr : rs ≠ []) (h : ∀ r ∈ rs, ∀ t ∈ r, thOk t) : Txt.split (rowsS rs) "; " = rs.map rowS := by
  unfold rowsS
  refine TL.split_join (s := 59) (S := [32]) rfl (by decide +kernel) (by simpa using hr) fun p hp => ?_
  obtain ⟨t, ht, rfl⟩ := List.mem_map.mp hp
  exact rowS_free (by decide) (by decide) (by decide) (by decide) (by decide) (by decide) t (h t ht)
theorem e_rowfrom (r : List Th) (h : ∀ t ∈ r, thOk t) (hl : r.length ≤ 300) : f_row_from [.str (rowS r)] = .ok (.lst true (r.map encT)) [.dead] := by
  have lg := line_ge
  have hlen := rowS_len r h hl
  unfold f_row_from b_row_from
  by_cases c : r = []
  · subst c
    have d := rowS_dash []
    simp_arith [↓d, Nat.zero_le, List.map_nil]
  · have d := rowS_dash r
    have hc : c_row_from_1 [.str (rowS r), .dead] = .ok (.lst true (r.map encT)) [.str (rowS r), .dead] := by
      have sp : split1W false (.str (rowS r)) [.str ", "] = some (.lst false ((r.map thS).map W.str)) := by rw [w_split (sp_ok _ _ comma_ne (by omega)), split_row r c h]
      unfold c_row_from_1
      rw [comp_map (fun t => W.str (thS t)) encT (xs := r) (by
        simp_arith [sp]
        rw [List.map_map]
        rfl) (by omega) (by
        intro t ht
        unfold lcOne
        simp_arith [e_thingfrom t (h t ht), pick_T])]
    simp_arith [↓d, c, hc]
theorem e_readrows (rs : List (List Th)) (h0 : 1 ≤ rs.length) (h6 : rs.length ≤ 6) (h : ∀ r ∈ rs, ∀ t ∈ r, thOk t) (hl : ∀ r ∈ rs, r.length ≤ 300) : f_read_rows [.str (rowsS rs)] = .ok (.nst (rs.map encO)) [.dead] := by
  have lg := line_ge
  have hlen := rowsS_len rs h hl (by omega)
  have hne : rs ≠ [] := fun z => by rw [z] at h0; exact absurd h0 (by decide)
  unfold f_read_rows b_read_rows
  have i1 : isiW ["str"] (.str (rowsS rs)) = some (.bl true) := rfl
  have hc : c_read_rows_1 [.str (rowsS rs), .dead, .dead] = .ok (.nst (rs.map encO)) [.str (rowsS rs), .dead, .dead] := by
    have sp : split1W false (.str (rowsS rs)) [.str "; "] = some (.lst false ((rs.map rowS).map W.str)) := by rw [w_split (sp_ok _ _ semi_ne (by omega)), split_rows rs hne h]
    unfold c_read_rows_1
    rw [compN_map (fun r => W.str (rowS r)) encO (xs := rs) (by
      simp_arith [sp]
      rw [List.map_map]
      rfl) (by omega) (by
      intro r hr
      refine ⟨_, rfl, rfl, [.str (rowsS rs), .dead, .str (rowS r)], ?_, rfl⟩
      unfold encO
      simp_arith [e_rowfrom r (h r hr) (hl r hr)])]
  have ar := e_arerows rs h0 h6 (fun r hr => by have := hl r hr; omega) fun r hr t ht => (h r hr t ht).2
  have hle : mLendE 1 (mCallP f_are_rows (Sm.bind (mCons (mVar 1) (mNil)) fun ws => if ws.length = 1 then Sm.ret ws else fun _ => .bad)) [.str (rowsS rs), .nst (rs.map encO), .dead] = .ok (.bl true) [.str (rowsS rs), .nst (rs.map encO), .dead] := by
    refine lendE_of (w0 := .nst (rs.map encO)) rfl (ok_nst rs) (env' := [.str (rowsS rs), .lst false (rs.map encR), .dead]) ?_ rfl
    rw [fz_nst]
    unfold encRs at ar
    simp_arith [ar]
  simp_arith [i1, hc, ↓hle, pick_nst]
/-! ### names -/
def keyAt (r : List Th) (p : Nat) : Int := ((r[p]?).getD (0, "")).1
def nmRow (h : Nat) (r : List Th) : List Nm := (List.range r.length).map fun p => (keyAt r p, h, p)
def rowAt (rs : List (List Th)) (h : Nat) : List Th := (rs[h]?).getD []
def nmAll (rs : List (List Th)) : List Nm := (List.range rs.length).flatMap fun h => nmRow h (rowAt rs h)
def hands (rs : List (List Th)) : List (List Nm) := (List.range rs.length).map fun h => srt (nmRow h (rowAt rs h))
structure Small (rs : List (List Th)) : Prop where
  few : rs.length ≤ 7
  len : ∀ r ∈ rs, r.length ≤ 1200
theorem RowsOk.small {rs : List (List Th)} (h : RowsOk rs) : Small rs := ⟨by have := h.six; omega, fun r hr => by have := h.len r hr; omega⟩
theorem rowAt_mem {rs : List (List Th)} {h : Nat} (hh : h < rs.length) : rowAt rs h ∈ rs := by
  unfold rowAt
  rw [List.getElem?_eq_getElem hh]
  exact List.getElem_mem hh
theorem Small.at {rs : List (List Th)} (z : Small rs) (h : Nat) : (rowAt rs h).length ≤ 1200 := by
  by_cases hh : h < rs.length
  · exact z.len _ (rowAt_mem hh)
  · unfold rowAt
    rw [List.getElem?_eq_none (by omega)]
    simp
def encNs (l : List Nm) : W := .lst false (l.map encN)
theorem okRs : EncOk encRs 3 := EncOk.lst okR
theorem okNs : EncOk encNs 2 := EncOk.lst okN
theorem nmRow_len (h : Nat) (r : List Th) : (nmRow h r).length = r.length := by unfold nmRow; simp
theorem key_at (r : List Th) (p : Nat) (h : p < r.length) : ixW (encR r) (.int (p : Int)) = some (encT (r[p])) := by
  unfold encR
  rw [w_ixL, atI_map, List.getElem?_eq_getElem h]
  rfl
theorem keyAt_eq (r : List Th) (p : Nat) (h : p < r.length) : keyAt r p = (r[p]).1 := by
  unfold keyAt
  rw [List.getElem?_eq_getElem h]
  rfl
theorem lenR (r : List Th) : lenW (encR r) = some (.int r.length) := by unfold encR; rw [w_lenL, List.length_map]
theorem e_nm1 (rs found : W) (h : Nat) (r : List Th) (hl : r.length ≤ 1000000) : c_names_plainly_1 [rs, found, .int (h : Int), encR r, .dead] = .ok (.lst true ((nmRow h r).map encN)) [rs, found, .int (h : Int), encR r, .dead] := by
  unfold c_names_plainly_1
  have lg := line_ge
  have hr : rngOk (r.length : Int) := rngOk_of (by omega) (by omega)
  have h3 : 3 ≤ sizeLine := by omega
  rw [comp_map (fun i : Nat => W.int (0 + (i : Int))) (fun p : Nat => encN (keyAt r p, h, p)) (xs := List.range r.length) (by
    unfold encR
    simp_arith [hr, rngL_nat, Int.toNat_natCast]) (by rw [List.length_range]; omega) (by
    intro p hp
    have hp2 : p < r.length := List.mem_range.mp hp
    have e0 : (0 : Int) + (p : Int) = (p : Int) := by omega
    have k1 := key_at r p hp2
    have k2 := keyAt_eq r p hp2
    unfold lcOne
    unfold encR at k1
    unfold encR
    rw [e0]
    simp_arith [↓k1, encT, encN, k2, atI_pos, Int.le_refl, Int.toNat_zero, h3])]
  unfold nmRow
  rw [List.map_map]
  rfl
theorem enum_rows (rs : List (List Th)) : ((rs.map encR).zipIdx.map fun q => W.tup [.int (q.2 : Nat), q.1]) = (List.range rs.length).map fun h : Nat => W.tup [.int (h : Int), encR (rowAt rs h)] := by
  refine List.ext_getElem (by simp) fun i h1 h2 => ?_
  have hi : i < rs.length := by simpa using h2
  simp [rowAt, hi]
theorem nm_turn (rs : W) (found : List Nm) (h : Nat) (r : List Th) (hr : r.length ≤ 1200) (hf : found.length ≤ 100000) : turn (tgT [2, 3]) b_names_plainly_1 [2, 3] (.tup [.int (h : Int), encR r]) [rs, .lst true (found.map encN), .dead, .dead, .dead] = .ok .nx [rs, .lst true ((found ++ nmRow h r).map encN), .dead, .dead, .dead] := by
  unfold b_names_plainly_1 turn
  have lg := line_ge
  have hl : found.length + (nmRow h r).length ≤ sizeLine := by rw [nmRow_len]; omega
  have e1 := e_nm1 rs (.lst true (found.map encN)) h r (by omega)
  unfold encR at e1
  unfold encR
  simp_arith [tgL, e1, hl, List.map_append]
theorem fold_app {α β : Type} (g : α → List β) : ∀ (xs : List α) (s : List β), xs.foldl (fun s x => s ++ g x) s = s ++ xs.flatMap g
  | [], s => by simp
  | x :: xs, s => by rw [List.foldl_cons, fold_app g xs, List.flatMap_cons, List.append_assoc]
theorem flat_len {α β : Type} (g : α → List β) (k : Nat) : ∀ (xs : List α), (∀ x ∈ xs, (g x).length ≤ k) → (xs.flatMap g).length ≤ xs.length * k
  | [], _ => by simp
  | x :: xs, h => by
    rw [List.flatMap_cons, List.length_append, List.length_cons, Nat.succ_mul]
    have h1 := h x List.mem_cons_self
    have h2 := flat_len g k xs fun y hy => h y (List.mem_cons_of_mem _ hy)
    omega
theorem Small.all {rs : List (List Th)} (z : Small rs) : (nmAll rs).length ≤ 8400 := by
  have h := flat_len (fun h => nmRow h (rowAt rs h)) 1200 (List.range rs.length) fun h _ => by rw [nmRow_len]; exact z.at h
  have := z.few
  rw [List.length_range] at h
  unfold nmAll
  omega
theorem e_names (rs : List (List Th)) (z : Small rs) : f_names_plainly [encRs rs] = .ok (.lst true ((srt (nmAll rs)).map encN)) [.dead] := by
  unfold f_names_plainly b_names_plainly
  have lg := line_ge
  have few := z.few
  have hf := mFor_fold (f := tgT [2, 3]) (body := b_names_plainly_1) (kill := [2, 3]) (xs := List.range rs.length) (fun h : Nat => W.tup [.int (h : Int), encR (rowAt rs h)]) (fun l : List Nm => [encRs rs, .lst true (l.map encN), .dead, .dead, .dead]) (fun l h => l ++ nmRow h (rowAt rs h)) (fun n l => l.length + 1200 * n ≤ 8400) (s := [])
    (by rw [List.length_range, List.length_nil]; omega) (fun h _ n l i => ⟨nm_turn _ l h _ (z.at h) (by omega), by rw [List.length_append, nmRow_len]; have := z.at h; omega⟩)
  rw [fold_app, List.nil_append] at hf
  obtain ⟨h1, h2⟩ := hf
  have hs : (nmAll rs).length ≤ sizeLine := by have := z.all; omega
  unfold encRs at h1
  unfold encRs
  simp only [List.map_nil] at h1
  have h3 : (List.range rs.length).flatMap (fun h => nmRow h (rowAt rs h)) = nmAll rs := rfl
  rw [h3] at h1
  simp_arith [Nat.zero_le, enum_rows, h1, sortN _ _ _ hs, srt]
end Ev

namespace Ev
open PySem PySem.Spec L2
local macro_rules
  | `(tactic| simp_arith [$ls,*] $[$l:location]?) => `(tactic| simp only [↓r_bind, ↓r_ret, ↓r_lft, ↓r_c, ↓r_var2, ↓r_move, ↓r_un, ↓r_bin, ↓r_chain, ↓r_toB, ↓r_ofB, ↓r_and, ↓r_or, ↓r_not, ↓r_nil, ↓r_cons, ↓r_args, ↓r_iargs, ↓r_ilst, ↓r_part, ↓r_no, ↓r_slice, ↓r_callP, ↓r_rnil, ↓r_rval, ↓r_rio, ↓r_call, ↓r_callL, ↓r_fz, ↓r_seq, ↓r_snil, ↓r_if, ↓r_drop, ↓r_sret, ↓r_set, ↓r_asg, ↓r_aug, ↓r_sfor, ↓r_mut, ↓r_sto, ↓r_go, ↓r_gfz, ↓r_push, ↓r_gfzD, ↓r_fzD,  ↓r_raise, ↓r_try, ↓r_itup, ↓r_iseq, ↓r_andV, ↓r_orV, ↓r_notV, ↓r_fn, ↓r_meth, ↓r_augS, ↓r_ichr, ↓r_pair, ↓r_mutN, ↓r_mutT, ↓r_app, ↓r_gfzC, ↓r_callO, ↓r_asgN, ↓r_takeK, pick_nst, pick_ntp, w_strL, w_zip3, ↓r_dnew, ↓r_key1, ↓r_keyT, ↓r_dget, ↓r_dget2, ↓r_dput, ↓r_mutP, ↓r_mutKP, ↓r_stoP, ↓r_stoN, ↓r_dputP, ↓r_fldP, ↓r_callM, ↓r_makeL, ↓r_gfzK, ↓r_gfzP, ↓r_dpopP, ↓r_augP, ↓r_forP, ↓r_chainI, ↓r_callT, ↓r_ikeys, ↓r_keyCut, w_keyI, w_keyS, w_keyT2, w_lookT, w_lookK, w_lookDT, w_lookDK, w_dputT, w_dputK, w_dkeysT, w_dkeysK, isDW_dct, frz_dct, pick_dct, w_geX, ty_str, and_self,
      maskL_nil, maskL_cons, frz_non, frz_bl, frz_int, frz_str, frz_tup, frz_lst, frz_scr, fz_lst, fz_int, fz_tup, fz_str, fz_bl, w_lst, w_tup, w_add, w_addL, w_addB, w_sub, w_mul, w_rep, w_fdiv, w_mod, w_pow, w_neg, w_lt, w_le, w_ge, w_gt, w_bl, w_intW, w_toI, w_toB, w_max2, w_min2, w_abs, w_lenL, w_lenC, w_lenT, w_listL, w_listC, w_listT, w_tupL, w_rev, w_ixL, w_ixC, w_ixT, w_cutL, w_cutC, w_frzL, w_frzC, w_rng1, w_rng2, w_enum, w_enumC, w_zip, w_app, w_ext, w_pop, w_sum, w_isx, w_isiI, w_isiB, w_tgN, w_tgT, w_killN, w_killC, w_takeN, w_takeV, w_takeI, w_putI, w_putV, w_putN, w_lendN, w_lendV, w_lendI, flat_bl, flat_int, flat_non,
      pick_non, pick_bl, pick_int, pick_str, pick_tup, pick_lst, pick_scr, pick_exc, pick_T, pick_R, pick_N, frzT, frzR, frzN, w_seqL, w_seqT, w_seqC, w_zipT, w_zipA, w_tupLt, w_leX, eqW_int, neW_int, eqW_nil, neW_nil, eqW_str, neW_str, List.cons_append, List.nil_append, List.length_cons, List.length_nil, List.replicate_succ, List.replicate_zero, List.getElem?_cons_zero, List.getElem?_cons_succ, List.set_cons_zero, List.set_cons_succ, List.length_map, Option.map_some, Option.bind_some, cond_true, cond_false, Bool.true_or, Bool.or_true, Bool.false_or, Bool.or_false, Bool.not_true, Bool.not_false, Bool.true_and, Bool.false_and, Nat.reduceSub, Nat.reduceAdd, Nat.reduceLeDiff, ↓reduceIte, if_true, if_false, reduceCtorEq, decide_true, decide_false, decide_eq_true_eq, Nat.zero_add, Nat.add_zero, $ls,*] $[$l]?)
/-! ### rows otherwise -/
theorem cut_mem {z : Str} {lo hi : Option Int} {c : Nat} (h : c ∈ (cutS z lo hi).cps.toList) : c ∈ z.cps.toList := by
  unfold cutS at h
  exact List.mem_of_mem_drop (List.mem_of_mem_take h)
theorem cut_le (z : Str) (lo hi : Option Int) : (cutS z lo hi).length ≤ z.length := by
  unfold cutS
  show ((z.cps.toList.drop _).take _).toArray.size ≤ z.cps.size
  rw [List.size_toArray, List.length_take, List.length_drop, Array.length_toList]
  omega
theorem cut8 (z : Str) : (cutS z none (some 8)).length = min 8 z.length := by
  unfold cutS
  rw [HT.sIx_none, show (8 : Int) = ((8 : Nat) : Int) from rfl, HT.sIx_nat]
  show ((z.cps.toList.drop 0).take _).toArray.size = min 8 z.cps.size
  rw [List.size_toArray, List.length_take, List.drop_zero, Array.length_toList]
  show min (min 8 z.cps.size - 0) z.cps.size = _
  omega
theorem kmovw_at (v : Int) (v0 : 0 ≤ v) (v1 : v < 5) : ∃ c : Nat, c ∈ abcL ∧ ixW (.str "kmovw") (.int v) = some (.str ⟨#[c]⟩) := by
  have h : (Str.length "kmovw") ≤ sizeLine := by
    have : Str.length "kmovw" = 5 := by decide
    have := line_ge
    omega
  have hl : (Str.cps "kmovw").toList.length = 5 := by decide
  have ha : ∀ c ∈ (Str.cps "kmovw").toList, c ∈ abcL := by decide
  refine ⟨(Str.cps "kmovw").toList[v.toNat]'(by rw [hl]; omega), ha _ (List.getElem_mem _), ?_⟩
  show (if (Str.length "kmovw") ≤ sizeLine then (atI (Str.cps "kmovw").toList v).map fun c => W.str ⟨#[c]⟩ else none) = _
  rw [if_pos h, atI_pos _ v0, List.getElem?_eq_getElem (by rw [hl]; omega)]
  rfl
theorem app_mem {a b : Str} {c : Nat} (h : c ∈ (a ++ b).cps.toList) : c ∈ a.cps.toList ∨ c ∈ b.cps.toList := by
  have e : (a ++ b).cps.toList = a.cps.toList ++ b.cps.toList := Array.toList_append
  rw [e] at h
  exact List.mem_append.mp h
noncomputable def tagM : Sm W := mSlice false true (mBin (addW false) true (mBin (addW false) true (mSlice false true (mVar 9) (mNo) (mPart (mUn negW (mC (.int 1))))) (mBin ixW true (mC (.str "kmovw")) (mBin modW true (mVar 6) (mC (.int 5))))) (mC (.str "b"))) (mNo) (mPart (mC (.int 8)))
theorem e_tagother (z : Str) (hz : tagOk z) (a : Int) (b0 b1 b2 b3 b4 b5 b7 b8 : W) : ∃ z2 : Str, tagOk z2 ∧
    tagM [b0, b1, b2, b3, b4, b5, .int a, b7, b8, .str z] = .ok (.str z2) [b0, b1, b2, b3, b4, b5, .int a, b7, b8, .str z] := by
  have lg := line_ge
  obtain ⟨c, hc, hx⟩ := kmovw_at (a % 5) (Int.emod_nonneg _ (by decide)) (Int.emod_lt_of_pos _ (by decide))
  have l0 := hz.2.1
  have l1 := cut_le z none (some (-1))
  have c1 := w_cutZ false z none (some (-1)) (by omega)
  have s1 : (⟨#[c]⟩ : Str).length = 1 := rfl
  have b1 : Str.length "b" = 1 := rfl
  obtain ⟨y, hy⟩ : ∃ y : Str, y = cutS z none (some (-1)) := ⟨_, rfl⟩
  rw [← hy] at l1 c1
  have a1 := w_addZ false y ⟨#[c]⟩ (by omega)
  have a2 := w_addZ false (y ++ ⟨#[c]⟩) "b" (by rw [Str.length_append]; omega)
  have l3 : (y ++ ⟨#[c]⟩ ++ "b").length = y.length + 2 := by rw [Str.length_append, Str.length_append]; omega
  have c2 := w_cutZ false (y ++ ⟨#[c]⟩ ++ "b") none (some 8) (by omega)
  have l4 := cut8 (y ++ ⟨#[c]⟩ ++ "b")
  refine ⟨cutS (y ++ ⟨#[c]⟩ ++ "b") none (some 8), ⟨by omega, by omega, fun x hx => ?_⟩, ?_⟩
  · rcases app_mem (cut_mem hx) with h | h
    · rcases app_mem h with h | h
      · rw [hy] at h
        exact hz.2.2 x (cut_mem h)
      · have : x = c := by simpa using h
        rw [this]; exact hc
    · have hb : ∀ x ∈ (Str.cps "b").toList, x ∈ abcL := by decide
      exact hb x h
  · have h5 : (5 : Int) ≠ 0 := by decide
    unfold tagM
    simp_arith [c1, hx, a1, a2, c2, Int.reduceLT]
section
variable (rs : List (List Th)) (a0 a1 a3 a4 a5 a6 a7 a8 a9 : W)
theorem o_len : mLendE 2 (mUn lenW (mVar 2)) [a0, a1, .nst (rs.map encO), a3, a4, a5, a6, a7, a8, a9] = .ok (.int (rs.length : Int)) [a0, a1, .nst (rs.map encO), a3, a4, a5, a6, a7, a8, a9] := by
  refine lendE_of (w0 := .nst (rs.map encO)) rfl (ok_nst rs) (env' := [a0, a1, .lst false (rs.map encR), a3, a4, a5, a6, a7, a8, a9]) ?_ rfl
  rw [fz_nst]
  simp_arith []
theorem row_at (h : Nat) (hh : h < rs.length) : atI (rs.map encR) (h : Int) = some (encR rs[h]) := by
  rw [atI_map, List.getElem?_eq_getElem hh]
  rfl
theorem th_at (r : List Th) (k : Nat) (hk : k < r.length) : atI (r.map encT) (k : Int) = some (encT r[k]) := by
  rw [atI_map, List.getElem?_eq_getElem hk]
  rfl
theorem o_row (h : Nat) (hh : h < rs.length) : mLendE 2 (mUn lenW (mBin ixW true (mVar 2) (mVar 4))) [a0, a1, .nst (rs.map encO), a3, .int (h : Int), a5, a6, a7, a8, a9] = .ok (.int (rs[h].length : Int)) [a0, a1, .nst (rs.map encO), a3, .int (h : Int), a5, a6, a7, a8, a9] := by
  refine lendE_of (w0 := .nst (rs.map encO)) rfl (ok_nst rs) (env' := [a0, a1, .lst false (rs.map encR), a3, .int (h : Int), a5, a6, a7, a8, a9]) ?_ rfl
  rw [fz_nst]
  have e := row_at rs h hh
  have l := lenR rs[h]
  simp_arith [e, l]
theorem o_some (h : Nat) (hh : h < rs.length) : tLendE 2 (toB (mBin neW true (mBin ixW true (mVar 2) (mVar 4)) (mArgs (lstW false) (mNil)))) [a0, a1, .nst (rs.map encO), a3, .int (h : Int), a5, a6, a7, a8, a9] = .ok (!decide (rs[h] = [])) [a0, a1, .nst (rs.map encO), a3, .int (h : Int), a5, a6, a7, a8, a9] := by
  have e := row_at rs h hh
  have n : neW (encR rs[h]) (.lst false []) = some (.bl (!decide (rs[h] = []))) := neW_lst okT false false rs[h] []
  rw [r_tlendE]
  show (if (W.nst (rs.map encO)).fzOk = true then _ else _) = _
  rw [if_pos (ok_nst rs), fz_nst]
  simp_arith [e, n, Nat.zero_le]
theorem o_th (h k : Nat) (hh : h < rs.length) (hk : k < rs[h].length) : mLendE 2 (mBin ixW true (mBin ixW true (mVar 2) (mVar 4)) (mVar 6)) [a0, a1, .nst (rs.map encO), a3, .int (h : Int), a5, .int (k : Int), a7, a8, a9] = .ok (encT rs[h][k]) [a0, a1, .nst (rs.map encO), a3, .int (h : Int), a5, .int (k : Int), a7, a8, a9] := by
  refine lendE_of (w0 := .nst (rs.map encO)) rfl (ok_nst rs) (env' := [a0, a1, .lst false (rs.map encR), a3, .int (h : Int), a5, .int (k : Int), a7, a8, a9]) ?_ rfl
  rw [fz_nst]
  have e := row_at rs h hh
  have e2 : ixW (encR rs[h]) (.int (k : Int)) = some (encT rs[h][k]) := key_at _ _ hk
  simp_arith [e, e2]
theorem o_th7 (h k : Nat) (hh : h < rs.length) (hk : k < rs[h].length) : mLendE 2 (mBin ixW true (mBin ixW true (mVar 2) (mVar 4)) (mVar 7)) [a0, a1, .nst (rs.map encO), a3, .int (h : Int), a5, a6, .int (k : Int), a8, a9] = .ok (encT rs[h][k]) [a0, a1, .nst (rs.map encO), a3, .int (h : Int), a5, a6, .int (k : Int), a8, a9] := by
  refine lendE_of (w0 := .nst (rs.map encO)) rfl (ok_nst rs) (env' := [a0, a1, .lst false (rs.map encR), a3, .int (h : Int), a5, a6, .int (k : Int), a8, a9]) ?_ rfl
  rw [fz_nst]
  have e := row_at rs h hh
  have e2 : ixW (encR rs[h]) (.int (k : Int)) = some (encT rs[h][k]) := key_at _ _ hk
  simp_arith [e, e2]
end
theorem seqIx_nat {n k : Nat} (h : k < n) : seqIndex? (k : Int) n = some k := by
  unfold seqIndex?
  have h1 : ¬ (k : Int) < 0 := by omega
  have h2 : (k : Int) < (n : Int) := by omega
  have h3 : (0 : Int) ≤ (k : Int) := by omega
  simp only [if_neg h1, decide_eq_true h2, decide_eq_true h3, Bool.and_self, if_true, Int.toNat_natCast]
theorem ixN_nat {n k : Nat} (h : k < n) : ixN n (k : Int) = some k := by
  unfold ixN
  rw [if_pos (by omega), if_pos (by omega), Int.toNat_natCast]
theorem pl_row (rs : List (List Th)) (h : Nat) (hh : h < rs.length) (a0 a1 a3 a5 a6 a7 a8 a9 : W) : pI 2 (pV 2) (mVar 4) [a0, a1, .nst (rs.map encO), a3, .int (h : Int), a5, a6, a7, a8, a9] = .ok [h] [a0, a1, .nst (rs.map encO), a3, .int (h : Int), a5, a6, a7, a8, a9] := by
  have e : ixN (rs.map encO).length (h : Int) = some h := ixN_nat (by rw [List.length_map]; exact hh)
  have p : pV 2 [a0, a1, .nst (rs.map encO), a3, .int (h : Int), a5, a6, a7, a8, a9] = .ok [] [a0, a1, .nst (rs.map encO), a3, .int (h : Int), a5, a6, a7, a8, a9] := rfl
  rw [r_pI, p]
  dsimp only
  rw [node_nil]
  dsimp only [List.getElem?_cons_succ, List.getElem?_cons_zero]
  rw [if_pos (lv_nst _)]
  dsimp only
  have v : mVar 4 [a0, a1, .nst (rs.map encO), a3, .int (h : Int), a5, a6, a7, a8, a9] = .ok (.int (h : Int)) [a0, a1, .nst (rs.map encO), a3, .int (h : Int), a5, a6, a7, a8, a9] := by simp_arith []
  rw [v]
  dsimp only
  rw [e]
  rfl
theorem nd_row (rs : List (List Th)) (h : Nat) (hh : h < rs.length) (a0 a1 a3 a4 a5 a6 a7 a8 a9 : W) : nodeAt 2 [h] [a0, a1, .nst (rs.map encO), a3, a4, a5, a6, a7, a8, a9] = some (.lst true (rs[h].map encT)) := by
  rw [node_cons]
  dsimp only [List.getElem?_cons_succ, List.getElem?_cons_zero]
  rw [if_pos (lv_nst _), getP_nst, List.getElem?_map, List.getElem?_eq_getElem hh]
  rfl
theorem pt_row (rs : List (List Th)) (h : Nat) (hh : h < rs.length) (r : List Th) (a0 a1 a3 a4 a5 a6 a7 a8 a9 : W) : putAt 2 [h] (.lst true (r.map encT)) [a0, a1, .nst (rs.map encO), a3, a4, a5, a6, a7, a8, a9] = [a0, a1, .nst ((rs.set h r).map encO), a3, a4, a5, a6, a7, a8, a9] := by
  rw [put_at]
  dsimp only [List.getElem?_cons_succ, List.getElem?_cons_zero]
  rw [setP_nst, List.getElem?_map, List.getElem?_eq_getElem hh]
  dsimp only [Option.map_some]
  rw [setP_nil, List.map_set]
  rfl
theorem set_th (r : List Th) (k : Nat) (t : Th) : (r.map encT).set k (encT t) = (r.set k t).map encT := by rw [List.map_set]
theorem o_sto (rs : List (List Th)) (h k : Nat) (hh : h < rs.length) (hk : k < rs[h].length) (t : Th) (a0 a1 a3 a5 a6 a7 a8 a9 : W) (mi me : Sm W) (h1 : me [a0, a1, .nst (rs.map encO), a3, .int (h : Int), a5, a6, a7, a8, a9] = .ok (encT t) [a0, a1, .nst (rs.map encO), a3, .int (h : Int), a5, a6, a7, a8, a9])
    (h2 : mi [a0, a1, .nst (rs.map encO), a3, .int (h : Int), a5, a6, a7, a8, a9] = .ok (.int (k : Int)) [a0, a1, .nst (rs.map encO), a3, .int (h : Int), a5, a6, a7, a8, a9]) :
    sStoP 2 (pI 2 (pV 2) (mVar 4)) mi me [a0, a1, .nst (rs.map encO), a3, .int (h : Int), a5, a6, a7, a8, a9] = .ok .nx [a0, a1, .nst ((rs.set h (rs[h].set k t)).map encO), a3, .int (h : Int), a5, a6, a7, a8, a9] := by
  rw [r_stoP, h1]
  dsimp only
  rw [if_pos (show (encT t).frz = true from rfl), pl_row rs h hh]
  dsimp only
  rw [nd_row rs h hh]
  dsimp only
  rw [h2]
  dsimp only
  rw [ixN_nat (by rw [List.length_map]; exact hk)]
  dsimp only
  rw [set_th, pt_row rs h hh]
end Ev

namespace Ev
open PySem PySem.Spec L2
local macro_rules
  | `(tactic| simp_arith [$ls,*] $[$l:location]?) => `(tactic| simp only [↓r_bind, ↓r_ret, ↓r_lft, ↓r_c, ↓r_var2, ↓r_move, ↓r_un, ↓r_bin, ↓r_chain, ↓r_toB, ↓r_ofB, ↓r_and, ↓r_or, ↓r_not, ↓r_nil, ↓r_cons, ↓r_args, ↓r_iargs, ↓r_ilst, ↓r_part, ↓r_no, ↓r_slice, ↓r_callP, ↓r_rnil, ↓r_rval, ↓r_rio, ↓r_call, ↓r_callL, ↓r_fz, ↓r_seq, ↓r_snil, ↓r_if, ↓r_drop, ↓r_sret, ↓r_set, ↓r_asg, ↓r_aug, ↓r_sfor, ↓r_mut, ↓r_sto, ↓r_go, ↓r_gfz, ↓r_push, ↓r_gfzD, ↓r_fzD,  ↓r_raise, ↓r_try, ↓r_itup, ↓r_iseq, ↓r_andV, ↓r_orV, ↓r_notV, ↓r_fn, ↓r_meth, ↓r_augS, ↓r_ichr, ↓r_pair, ↓r_mutN, ↓r_mutT, ↓r_app, ↓r_gfzC, ↓r_callO, ↓r_asgN, ↓r_takeK, pick_nst, pick_ntp, w_strL, w_zip3, ↓r_dnew, ↓r_key1, ↓r_keyT, ↓r_dget, ↓r_dget2, ↓r_dput, ↓r_mutP, ↓r_mutKP, ↓r_stoP, ↓r_stoN, ↓r_dputP, ↓r_fldP, ↓r_callM, ↓r_makeL, ↓r_gfzK, ↓r_gfzP, ↓r_dpopP, ↓r_augP, ↓r_forP, ↓r_chainI, ↓r_callT, ↓r_ikeys, ↓r_keyCut, w_keyI, w_keyS, w_keyT2, w_lookT, w_lookK, w_lookDT, w_lookDK, w_dputT, w_dputK, w_dkeysT, w_dkeysK, isDW_dct, frz_dct, pick_dct, w_geX, ty_str, and_self,
      maskL_nil, maskL_cons, frz_non, frz_bl, frz_int, frz_str, frz_tup, frz_lst, frz_scr, fz_lst, fz_int, fz_tup, fz_str, fz_bl, w_lst, w_tup, w_add, w_addL, w_addB, w_sub, w_mul, w_rep, w_fdiv, w_mod, w_pow, w_neg, w_lt, w_le, w_ge, w_gt, w_bl, w_intW, w_toI, w_toB, w_max2, w_min2, w_abs, w_lenL, w_lenC, w_lenT, w_listL, w_listC, w_listT, w_tupL, w_rev, w_ixL, w_ixC, w_ixT, w_cutL, w_cutC, w_frzL, w_frzC, w_rng1, w_rng2, w_enum, w_enumC, w_zip, w_app, w_ext, w_pop, w_sum, w_isx, w_isiI, w_isiB, w_tgN, w_tgT, w_killN, w_killC, w_takeN, w_takeV, w_takeI, w_putI, w_putV, w_putN, w_lendN, w_lendV, w_lendI, flat_bl, flat_int, flat_non,
      pick_non, pick_bl, pick_int, pick_str, pick_tup, pick_lst, pick_scr, pick_exc, pick_T, pick_R, pick_N, frzT, frzR, frzN, w_seqL, w_seqT, w_seqC, w_zipT, w_zipA, w_tupLt, w_leX, eqW_int, neW_int, eqW_nil, neW_nil, eqW_str, neW_str, List.cons_append, List.nil_append, List.length_cons, List.length_nil, List.replicate_succ, List.replicate_zero, List.getElem?_cons_zero, List.getElem?_cons_succ, List.set_cons_zero, List.set_cons_succ, List.length_map, Option.map_some, Option.bind_some, cond_true, cond_false, Bool.true_or, Bool.or_true, Bool.false_or, Bool.or_false, Bool.not_true, Bool.not_false, Bool.true_and, Bool.false_and, Nat.reduceSub, Nat.reduceAdd, Nat.reduceLeDiff, ↓reduceIte, if_true, if_false, reduceCtorEq, decide_true, decide_false, decide_eq_true_eq, Nat.zero_add, Nat.add_zero, $ls,*] $[$l]?)
theorem er_map {α β : Type} (f : α → β) (l : List α) (k : Nat) : (l.map f).eraseIdx k = (l.eraseIdx k).map f := by
  rw [List.eraseIdx_eq_take_drop_succ, List.eraseIdx_eq_take_drop_succ, List.map_append, List.map_take, List.map_drop]
theorem w_popAt (xs : List W) (k : Nat) (w : W) (hw : xs[k]? = some w) (hb : k ≤ 1000) : fPopAt xs [.int (k : Int)] = some (w, xs.eraseIdx k) := by
  have hk : k < xs.length := (List.getElem?_eq_some_iff.mp hw).1
  by_cases hc : -(2 ^ 63) ≤ (k : Int) ∧ (k : Int) < 2 ^ 63
  · unfold fPopAt
    dsimp only
    rw [if_pos hc, seqIx_nat hk, Option.bind_some, hw]
    rfl
  · exact absurd ⟨by omega, by omega⟩ hc
theorem w_popK (xs : List W) (k : Nat) (hk : k < xs.length) (hb : k ≤ 1000) : kPop xs [.int (k : Int)] = some (.dead, xs.eraseIdx k) := by
  by_cases hc : -(2 ^ 63) ≤ (k : Int) ∧ (k : Int) < 2 ^ 63
  · unfold kPop
    dsimp only
    rw [if_pos hc, seqIx_nat hk, Option.bind_some, if_pos hk]
  · exact absurd ⟨by omega, by omega⟩ hc
theorem w_insAt (xs : List W) (k : Nat) (y : W) (hl : xs.length ≤ 1000) (hb : k ≤ 1000) : fInsert xs [.int (k : Int), y] = some (.non, xs.take k ++ [y] ++ xs.drop k) := by
  have lg := line_ge
  by_cases hc : xs.length < sizeLine ∧ 0 ≤ (k : Int) ∧ (k : Int) < 2 ^ 63
  · unfold fInsert
    dsimp only
    rw [if_pos hc, Int.toNat_natCast]
  · exact absurd ⟨by omega, by omega, by omega⟩ hc
theorem o_mut (F : MutF) (rs : List (List Th)) (h k : Nat) (hh : h < rs.length) (w : W) (r2 : List Th) (a0 a1 a3 a5 a7 a8 a9 : W) (hF : F (rs[h].map encT) [.int (k : Int)] = some (w, r2.map encT)) :
    mMutP 2 (pI 2 (pV 2) (mVar 4)) F (mCons (mVar 6) (mNil)) [a0, a1, .nst (rs.map encO), a3, .int (h : Int), a5, .int (k : Int), a7, a8, a9] = .ok w [a0, a1, .nst ((rs.set h r2).map encO), a3, .int (h : Int), a5, .int (k : Int), a7, a8, a9] := by
  have v : mCons (mVar 6) mNil [a0, a1, .nst (rs.map encO), a3, .int (h : Int), a5, .int (k : Int), a7, a8, a9] = .ok [.int (k : Int)] [a0, a1, .nst (rs.map encO), a3, .int (h : Int), a5, .int (k : Int), a7, a8, a9] := by simp_arith []
  rw [r_mutP, pl_row rs h hh]
  dsimp only
  rw [nd_row rs h hh]
  dsimp only
  rw [v]
  dsimp only
  rw [hF]
  dsimp only
  rw [pt_row rs h hh]
theorem o_pop (rs : List (List Th)) (h k : Nat) (hh : h < rs.length) (hk : k < rs[h].length) (hs : rs[h].length ≤ 1000) (a0 a1 a3 a5 a7 a8 a9 : W) :
    mMutP 2 (pI 2 (pV 2) (mVar 4)) fPopAt (mCons (mVar 6) (mNil)) [a0, a1, .nst (rs.map encO), a3, .int (h : Int), a5, .int (k : Int), a7, a8, a9] = .ok (encT rs[h][k]) [a0, a1, .nst ((rs.set h (rs[h].eraseIdx k)).map encO), a3, .int (h : Int), a5, .int (k : Int), a7, a8, a9] := by
  refine o_mut fPopAt rs h k hh _ _ a0 a1 a3 a5 a7 a8 a9 ?_
  rw [w_popAt _ k (encT rs[h][k]) (by rw [List.getElem?_map, List.getElem?_eq_getElem hk]; rfl) (by omega), er_map]
theorem RowsOk.upd {rs : List (List Th)} (ok : RowsOk rs) (h : Nat) (r : List Th) (hl : r.length ≤ 200) (hk : ∀ t ∈ r, keyOk t.1 ∧ tagOk t.2) : RowsOk (rs.set h r) := by
  refine ⟨by rw [List.length_set]; exact ok.ne, by rw [List.length_set]; exact ok.six, fun x hx => ?_, fun x hx => ?_⟩
  · rcases List.mem_or_eq_of_mem_set hx with m | rfl
    · exact ok.len x m
    · exact hl
  · rcases List.mem_or_eq_of_mem_set hx with m | rfl
    · exact ok.key x m
    · exact hk
theorem set_ok {r : List Th} (h : ∀ t ∈ r, keyOk t.1 ∧ tagOk t.2) (k : Nat) (t : Th) (ht : keyOk t.1 ∧ tagOk t.2) : ∀ x ∈ r.set k t, keyOk x.1 ∧ tagOk x.2 := fun x hx => by
  rcases List.mem_or_eq_of_mem_set hx with m | rfl
  · exact h x m
  · exact ht
noncomputable def stoA : Sm Fl := sStoP 2 (pI 2 (pV 2) (mVar 4)) (mVar 6) (mArgs tupW (mCons (mBin (addW false) true (mVar 8) (mC (.int 1))) (mCons (mVar 9) (mNil))))
noncomputable def stoB : Sm Fl := sStoP 2 (pI 2 (pV 2) (mVar 4)) (mVar 6) (mArgs tupW (mCons (mVar 8) (mCons (tagM) (mNil))))
noncomputable def stoC : Sm Fl := sStoP 2 (pI 2 (pV 2) (mVar 4)) (mVar 6) (mLendE 2 (mBin ixW true (mBin ixW true (mVar 2) (mVar 4)) (mVar 7)))
noncomputable def stoD : Sm Fl := sStoP 2 (pI 2 (pV 2) (mVar 4)) (mVar 7) (mArgs tupW (mCons (mVar 8) (mCons (mVar 9) (mNil))))
noncomputable def popM : Sm W := mMutP 2 (pI 2 (pV 2) (mVar 4)) fPopAt (mCons (mVar 6) (mNil))
noncomputable def othIf : Sm Fl := (sIf (tLendE 2 (toB (mBin neW true (mBin ixW true (mVar 2) (mVar 4)) (mArgs (lstW false) (mNil))))) (sSeq (sSet 6 true (mCall f__law_take 2 (Sm.bind (mVar 0) fun _ => rIo 0 (rVal (mLendE 2 (mUn lenW (mBin ixW true (mVar 2) (mVar 4)))) (rNil))))) (sSeq (sSet 7 true (mCall f__law_take 2 (Sm.bind (mVar 0) fun _ => rIo 0 (rVal (mLendE 2 (mUn lenW (mBin ixW true (mVar 2) (mVar 4)))) (rNil))))) (sSeq (sAsg (tgT [8, 9]) (mLendE 2 (mBin ixW true (mBin ixW true (mVar 2) (mVar 4)) (mVar 6)))) (sSeq (sIf (toB (mBin eqW true (mVar 5) (mC (.int 0)))) (stoA) (sNil)) (sSeq (sIf (toB (mBin eqW true (mVar 5) (mC (.int 1)))) (stoB) (sNil)) (sSeq (sIf (toB (mBin eqW true (mVar 5) (mC (.int 2)))) (sSeq (stoC) (stoD)) (sNil)) (sIf (toB (mBin eqW true (mVar 5) (mC (.int 3)))) (sDrop (popM)) (sNil)))))))) (sNil))
theorem o_if (d : List Int) (rs : List (List Th)) (ok : RowsT rs) (h : Nat) (hh : h < rs.length) (way : Int) (a1 : W) : ∃ (d' : List Int) (rs2 : List (List Th)) (b6 b7 b8 b9 : W), RowsOk rs2 ∧ rs2.length = rs.length ∧
    othIf [dk d, a1, .nst (rs.map encO), .dead, .int (h : Int), .int way, .dead, .dead, .dead, .dead] = .ok .nx [dk d', a1, .nst (rs2.map encO), .dead, .int (h : Int), .int way, b6, b7, b8, b9] := by
  have lg := line_ge
  have h2 : 2 ≤ sizeLine := by omega
  have hr := List.getElem_mem hh
  have hl := ok.len _ hr
  by_cases hz : rs[h] = []
  · refine ⟨d, rs, .dead, .dead, .dead, .dead, ok.ok, rfl, ?_⟩
    have e := o_some rs (dk d) a1 .dead (.int way) .dead .dead .dead .dead h hh
    rw [decide_eq_true hz] at e
    unfold othIf
    simp_arith [↓e]
  · have hp : 0 < rs[h].length := List.length_pos_iff.mpr hz
    obtain ⟨v, d1, v0, v1, t1⟩ := e_take d (rs[h].length : Int) (by omega)
    obtain ⟨k, rfl⟩ : ∃ k : Nat, v = k := ⟨v.toNat, by omega⟩
    obtain ⟨v, d2, u0, u1, t2⟩ := e_take d1 (rs[h].length : Int) (by omega)
    obtain ⟨j, rfl⟩ : ∃ k : Nat, v = k := ⟨v.toNat, by omega⟩
    have hk : k < rs[h].length := by omega
    have hj : j < rs[h].length := by omega
    have ht := ok.key _ hr _ (List.getElem_mem hk)
    have htj := ok.ok.key _ hr _ (List.getElem_mem hj)
    have hro := ok.ok.key _ hr
    have e1 := o_some rs (dk d) a1 .dead (.int way) .dead .dead .dead .dead h hh
    rw [decide_eq_false hz] at e1
    have e2 := o_row rs (dk d) a1 .dead (.int way) .dead .dead .dead .dead h hh
    have e3 := o_row rs (dk d1) a1 .dead (.int way) (.int (k : Int)) .dead .dead .dead h hh
    have e4 := o_th rs (dk d2) a1 .dead (.int way) (.int (j : Int)) .dead .dead h k hh hk
    have et : encT rs[h][k] = .tup [.int rs[h][k].1, .str rs[h][k].2] := rfl
    rw [et] at e4
    by_cases w0 : way = 0
    · subst w0
      refine ⟨d2, rs.set h (rs[h].set k (rs[h][k].1 + 1, rs[h][k].2)), (.int (k : Int)), (.int (j : Int)), (.int rs[h][k].1), (.str rs[h][k].2), ok.ok.upd h _ (by rw [List.length_set]; exact hl) (set_ok hro _ _ ⟨ht.1.more, ht.2⟩), List.length_set, ?_⟩
      have s : stoA _ = _ := o_sto rs h k hh hk (rs[h][k].1 + 1, rs[h][k].2) (dk d2) a1 .dead (.int 0) (.int (k : Int)) (.int (j : Int)) (.int rs[h][k].1) (.str rs[h][k].2) (mVar 6) (mArgs tupW (mCons (mBin (addW false) true (mVar 8) (mC (.int 1))) (mCons (mVar 9) (mNil)))) (by simp_arith [h2]; rfl) (by simp_arith [])
      unfold othIf
      simp_arith [↓e1, ↓e2, ↓e3, ↓e4, t1, t2, tgL, ↓s, Int.reduceEq]
      try rfl
    · by_cases w1 : way = 1
      · subst w1
        obtain ⟨z2, z3, z4⟩ := e_tagother rs[h][k].2 ht.2 (k : Int) (dk d2) a1 (.nst (rs.map encO)) .dead (.int (h : Int)) (.int 1) (.int (j : Int)) (.int rs[h][k].1)
        refine ⟨d2, rs.set h (rs[h].set k (rs[h][k].1, z2)), (.int (k : Int)), (.int (j : Int)), (.int rs[h][k].1), (.str rs[h][k].2), ok.ok.upd h _ (by rw [List.length_set]; exact hl) (set_ok hro _ _ ⟨ht.1.ok, z3⟩), List.length_set, ?_⟩
        have s : stoB _ = _ := o_sto rs h k hh hk (rs[h][k].1, z2) (dk d2) a1 .dead (.int 1) (.int (k : Int)) (.int (j : Int)) (.int rs[h][k].1) (.str rs[h][k].2) (mVar 6) (mArgs tupW (mCons (mVar 8) (mCons (tagM) (mNil)))) (by simp_arith [↓z4, h2]; rfl) (by simp_arith [])
        unfold othIf
        simp_arith [↓e1, ↓e2, ↓e3, ↓e4, t1, t2, tgL, ↓s, Int.reduceEq]
        try rfl
      · by_cases w2 : way = 2
        · subst w2
          have q1 := o_th7 rs (dk d2) a1 .dead (.int 2) (.int (k : Int)) (.int rs[h][k].1) (.str rs[h][k].2) h j hh hj
          have s1 : stoC _ = _ := o_sto rs h k hh hk rs[h][j] (dk d2) a1 .dead (.int 2) (.int (k : Int)) (.int (j : Int)) (.int rs[h][k].1) (.str rs[h][k].2) (mVar 6) (mLendE 2 (mBin ixW true (mBin ixW true (mVar 2) (mVar 4)) (mVar 7))) q1 (by simp_arith [])
          have g1 : h < (rs.set h (rs[h].set k rs[h][j])).length := by rw [List.length_set]; exact hh
          have g2 : (rs.set h (rs[h].set k rs[h][j]))[h] = rs[h].set k rs[h][j] := List.getElem_set_self ..
          have g3 : j < ((rs.set h (rs[h].set k rs[h][j]))[h]).length := by rw [g2, List.length_set]; exact hj
          have s2 : stoD _ = _ := o_sto (rs.set h (rs[h].set k rs[h][j])) h j g1 g3 rs[h][k] (dk d2) a1 .dead (.int 2) (.int (k : Int)) (.int (j : Int)) (.int rs[h][k].1) (.str rs[h][k].2) (mVar 7) (mArgs tupW (mCons (mVar 8) (mCons (mVar 9) (mNil)))) (by simp_arith [h2]; rfl) (by simp_arith [])
          refine ⟨d2, ((rs.set h (rs[h].set k rs[h][j])).set h (((rs.set h (rs[h].set k rs[h][j]))[h]).set j rs[h][k])), (.int (k : Int)), (.int (j : Int)), (.int rs[h][k].1), (.str rs[h][k].2), ?_, ?_, (by
            unfold othIf
            simp_arith [↓e1, ↓e2, ↓e3, ↓e4, t1, t2, tgL, ↓s1, ↓s2, Int.reduceEq]
            try rfl)⟩
          · refine (ok.ok.upd h _ (by rw [List.length_set]; exact hl) (set_ok hro _ _ htj)).upd h _ ?_ ?_
            · rw [List.length_set, g2, List.length_set]; exact hl
            · rw [g2]
              exact set_ok (set_ok hro _ _ htj) _ _ ⟨ht.1.ok, ht.2⟩
          · rw [List.length_set, List.length_set]
        · by_cases w3 : way = 3
          · subst w3
            have s : popM _ = _ := o_pop rs h k hh hk (by omega) (dk d2) a1 .dead (.int 3) (.int (j : Int)) (.int rs[h][k].1) (.str rs[h][k].2)
            refine ⟨d2, rs.set h (rs[h].eraseIdx k), (.int (k : Int)), (.int (j : Int)), (.int rs[h][k].1), (.str rs[h][k].2), ok.ok.upd h _ ?_ (fun t m => hro t (List.mem_of_mem_eraseIdx m)), List.length_set, (by
              unfold othIf
              simp_arith [↓e1, ↓e2, ↓e3, ↓e4, t1, t2, tgL, ↓s, Int.reduceEq]
              try rfl)⟩
            rw [List.length_eraseIdx]
            split <;> omega
          · refine ⟨d2, rs, (.int (k : Int)), (.int (j : Int)), (.int rs[h][k].1), (.str rs[h][k].2), ok.ok, rfl, (by
              unfold othIf
              simp_arith [↓e1, ↓e2, ↓e3, ↓e4, t1, t2, tgL, w0, w1, w2, w3]
              try rfl)⟩
end Ev

namespace Ev
open PySem PySem.Spec L2
local macro_rules
  | `(tactic| simp_arith [$ls,*] $[$l:location]?) => `(tactic| simp only [↓r_bind, ↓r_ret, ↓r_lft, ↓r_c, ↓r_var2, ↓r_move, ↓r_un, ↓r_bin, ↓r_chain, ↓r_toB, ↓r_ofB, ↓r_and, ↓r_or, ↓r_not, ↓r_nil, ↓r_cons, ↓r_args, ↓r_iargs, ↓r_ilst, ↓r_part, ↓r_no, ↓r_slice, ↓r_callP, ↓r_rnil, ↓r_rval, ↓r_rio, ↓r_call, ↓r_callL, ↓r_fz, ↓r_seq, ↓r_snil, ↓r_if, ↓r_drop, ↓r_sret, ↓r_set, ↓r_asg, ↓r_aug, ↓r_sfor, ↓r_mut, ↓r_sto, ↓r_go, ↓r_gfz, ↓r_push, ↓r_gfzD, ↓r_fzD,  ↓r_raise, ↓r_try, ↓r_itup, ↓r_iseq, ↓r_andV, ↓r_orV, ↓r_notV, ↓r_fn, ↓r_meth, ↓r_augS, ↓r_ichr, ↓r_pair, ↓r_mutN, ↓r_mutT, ↓r_app, ↓r_gfzC, ↓r_callO, ↓r_asgN, ↓r_takeK, pick_nst, pick_ntp, w_strL, w_zip3, ↓r_dnew, ↓r_key1, ↓r_keyT, ↓r_dget, ↓r_dget2, ↓r_dput, ↓r_mutP, ↓r_mutKP, ↓r_stoP, ↓r_stoN, ↓r_dputP, ↓r_fldP, ↓r_callM, ↓r_makeL, ↓r_gfzK, ↓r_gfzP, ↓r_dpopP, ↓r_augP, ↓r_forP, ↓r_chainI, ↓r_callT, ↓r_ikeys, ↓r_keyCut, w_keyI, w_keyS, w_keyT2, w_lookT, w_lookK, w_lookDT, w_lookDK, w_dputT, w_dputK, w_dkeysT, w_dkeysK, isDW_dct, frz_dct, pick_dct, w_geX, ty_str, and_self,
      maskL_nil, maskL_cons, frz_non, frz_bl, frz_int, frz_str, frz_tup, frz_lst, frz_scr, fz_lst, fz_int, fz_tup, fz_str, fz_bl, w_lst, w_tup, w_add, w_addL, w_addB, w_sub, w_mul, w_rep, w_fdiv, w_mod, w_pow, w_neg, w_lt, w_le, w_ge, w_gt, w_bl, w_intW, w_toI, w_toB, w_max2, w_min2, w_abs, w_lenL, w_lenC, w_lenT, w_listL, w_listC, w_listT, w_tupL, w_rev, w_ixL, w_ixC, w_ixT, w_cutL, w_cutC, w_frzL, w_frzC, w_rng1, w_rng2, w_enum, w_enumC, w_zip, w_app, w_ext, w_pop, w_sum, w_isx, w_isiI, w_isiB, w_tgN, w_tgT, w_killN, w_killC, w_takeN, w_takeV, w_takeI, w_putI, w_putV, w_putN, w_lendN, w_lendV, w_lendI, flat_bl, flat_int, flat_non,
      pick_non, pick_bl, pick_int, pick_str, pick_tup, pick_lst, pick_scr, pick_exc, pick_T, pick_R, pick_N, frzT, frzR, frzN, w_seqL, w_seqT, w_seqC, w_zipT, w_zipA, w_tupLt, w_leX, eqW_int, neW_int, eqW_nil, neW_nil, eqW_str, neW_str, List.cons_append, List.nil_append, List.length_cons, List.length_nil, List.replicate_succ, List.replicate_zero, List.getElem?_cons_zero, List.getElem?_cons_succ, List.set_cons_zero, List.set_cons_succ, List.length_map, Option.map_some, Option.bind_some, cond_true, cond_false, Bool.true_or, Bool.or_true, Bool.false_or, Bool.or_false, Bool.not_true, Bool.not_false, Bool.true_and, Bool.false_and, Nat.reduceSub, Nat.reduceAdd, Nat.reduceLeDiff, ↓reduceIte, if_true, if_false, reduceCtorEq, decide_true, decide_false, decide_eq_true_eq, Nat.zero_add, Nat.add_zero, $ls,*] $[$l]?)
noncomputable def insM : Sm W := mMutKP 2 (pV 2) fInsert (mCons (mVar 4) (mCons (mArgs (lstW false) (mNil)) (mNil)))
noncomputable def outM : Sm W := mMutKP 2 (pV 2) kPop (mCons (mVar 4) (mNil))
noncomputable def othTail : Sm Fl := (sSeq (sIf (mAnd (toB (mBin eqW true (mVar 5) (mC (.int 4)))) (toB (mBin ltW true (mLendE 2 (mUn lenW (mVar 2))) (mC (.int 6))))) (sDrop insM) (sNil)) (sSeq (sIf (mAnd (toB (mBin eqW true (mVar 5) (mC (.int 5)))) (toB (mBin gtW true (mLendE 2 (mUn lenW (mVar 2))) (mC (.int 1))))) (sDrop outM) (sNil)) (sRet true (mMove 2))))
theorem o_mutK (F : MutF) (mi : Sm (List W)) (rs : List (List Th)) (h : Nat) (us : List W) (w : W) (ws : List W) (a0 a1 a3 a5 a6 a7 a8 a9 : W)
    (v : mi [a0, a1, .nst (rs.map encO), a3, .int (h : Int), a5, a6, a7, a8, a9] = .ok us [a0, a1, .nst (rs.map encO), a3, .int (h : Int), a5, a6, a7, a8, a9]) (hF : F (rs.map encO) us = some (w, ws)) :
    mMutKP 2 (pV 2) F mi [a0, a1, .nst (rs.map encO), a3, .int (h : Int), a5, a6, a7, a8, a9] = .ok w [a0, a1, .nst ws, a3, .int (h : Int), a5, a6, a7, a8, a9] := by
  have p : pV 2 [a0, a1, .nst (rs.map encO), a3, .int (h : Int), a5, a6, a7, a8, a9] = .ok [] [a0, a1, .nst (rs.map encO), a3, .int (h : Int), a5, a6, a7, a8, a9] := rfl
  rw [r_mutKP, p]
  dsimp only
  rw [node_nil]
  dsimp only [List.getElem?_cons_succ, List.getElem?_cons_zero]
  rw [if_pos (lv_nst _)]
  dsimp only
  rw [v]
  dsimp only
  rw [hF]
  rfl
theorem o_ins (rs : List (List Th)) (hl : rs.length < 1000) (h : Nat) (hh : h < rs.length) (a0 a1 a3 a5 a6 a7 a8 a9 : W) :
    mMutKP 2 (pV 2) fInsert (mCons (mVar 4) (mCons (mArgs (lstW false) (mNil)) (mNil))) [a0, a1, .nst (rs.map encO), a3, .int (h : Int), a5, a6, a7, a8, a9] = .ok .non [a0, a1, .nst ((rs.map encO).take h ++ [.lst false []] ++ (rs.map encO).drop h), a3, .int (h : Int), a5, a6, a7, a8, a9] :=
  o_mutK fInsert _ rs h [.int (h : Int), .lst false []] _ _ a0 a1 a3 a5 a6 a7 a8 a9 (by simp_arith [Nat.zero_le]) (w_insAt _ _ _ (by rw [List.length_map]; omega) (by omega))
theorem o_out (rs : List (List Th)) (hl : rs.length < 1000) (h : Nat) (hh : h < rs.length) (a0 a1 a3 a5 a6 a7 a8 a9 : W) :
    mMutKP 2 (pV 2) kPop (mCons (mVar 4) (mNil)) [a0, a1, .nst (rs.map encO), a3, .int (h : Int), a5, a6, a7, a8, a9] = .ok .dead [a0, a1, .nst ((rs.eraseIdx h).map encO), a3, .int (h : Int), a5, a6, a7, a8, a9] := by
  refine o_mutK kPop _ rs h [.int (h : Int)] _ _ a0 a1 a3 a5 a6 a7 a8 a9 (by simp_arith []) ?_
  rw [w_popK _ _ (by rw [List.length_map]; exact hh) (by omega), er_map]
theorem fz_kids (rs : List (List Th)) : (rs.map encO).map W.fzD = rs.map encR := by
  rw [List.map_map]
  rfl
theorem ok_kids (rs : List (List Th)) : ∀ w ∈ rs.map encO, w.fzOk = true := fun w hw => by
  obtain ⟨r, _, rfl⟩ := List.mem_map.mp hw
  rfl
theorem o_tail0 (rs : List (List Th)) (h : Nat) (way : Int) (a0 a1 a6 a7 a8 a9 : W) (n1 : ¬ (way = 4 ∧ rs.length < 6)) (n2 : ¬ (way = 5 ∧ 1 < rs.length)) :
    othTail [a0, a1, .nst (rs.map encO), .dead, .int (h : Int), .int way, a6, a7, a8, a9] = .ok (.rt (.nst (rs.map encO))) [a0, a1, .dead, .dead, .int (h : Int), .int way, a6, a7, a8, a9] := by
  have e0 := o_len rs a0 a1 .dead (.int (h : Int)) (.int way) a6 a7 a8 a9
  unfold othTail
  by_cases c1 : way = 4
  · subst c1
    have n3 : ¬ ((rs.length : Int) < 6) := fun z => n1 ⟨rfl, by omega⟩
    simp_arith [↓e0, n3, Int.reduceEq, pick_nst]
  · by_cases c2 : way = 5
    · subst c2
      have n3 : ¬ ((rs.length : Int) > 1) := fun z => n2 ⟨rfl, by omega⟩
      simp_arith [↓e0, n3, Int.reduceEq, pick_nst]
    · simp_arith [c1, c2, pick_nst]
theorem o_tail4 (rs : List (List Th)) (hl : rs.length < 6) (h : Nat) (hh : h < rs.length) (a0 a1 a6 a7 a8 a9 : W) :
    othTail [a0, a1, .nst (rs.map encO), .dead, .int (h : Int), .int 4, a6, a7, a8, a9] = .ok (.rt (.nst ((rs.map encO).take h ++ [.lst false []] ++ (rs.map encO).drop h))) [a0, a1, .dead, .dead, .int (h : Int), .int 4, a6, a7, a8, a9] := by
  have e0 := o_len rs a0 a1 .dead (.int (h : Int)) (.int 4) a6 a7 a8 a9
  have s : insM _ = _ := o_ins rs (by omega) h hh a0 a1 .dead (.int 4) a6 a7 a8 a9
  have l6' : (rs.length : Int) < 6 := by omega
  obtain ⟨xs, hx⟩ : ∃ xs, xs = (rs.map encO).take h ++ [.lst false []] ++ (rs.map encO).drop h := ⟨_, rfl⟩
  rw [← hx] at s ⊢
  unfold othTail
  simp_arith [↓e0, l6', ↓s, Int.reduceEq, pick_nst]
theorem o_tail5 (rs : List (List Th)) (hl : rs.length < 1000) (h1 : 1 < rs.length) (h : Nat) (hh : h < rs.length) (a0 a1 a6 a7 a8 a9 : W) :
    othTail [a0, a1, .nst (rs.map encO), .dead, .int (h : Int), .int 5, a6, a7, a8, a9] = .ok (.rt (.nst ((rs.eraseIdx h).map encO))) [a0, a1, .dead, .dead, .int (h : Int), .int 5, a6, a7, a8, a9] := by
  have e0 := o_len rs a0 a1 .dead (.int (h : Int)) (.int 5) a6 a7 a8 a9
  have s : outM _ = _ := o_out rs hl h hh a0 a1 .dead (.int 5) a6 a7 a8 a9
  have l1' : (rs.length : Int) > 1 := by omega
  unfold othTail
  simp_arith [↓e0, l1', ↓s, Int.reduceEq, pick_nst]
theorem RowsOk.ins {rs : List (List Th)} (ok : RowsOk rs) (hl : rs.length < 6) (h : Nat) : RowsOk (rs.take h ++ [[]] ++ rs.drop h) := by
  refine ⟨?_, ?_, fun r hr => ?_, fun r hr t ht => ?_⟩
  · rw [List.length_append, List.length_append, List.length_singleton]; omega
  · rw [List.length_append, List.length_append, List.length_singleton, List.length_take, List.length_drop]; omega
  · rcases List.mem_append.mp hr with m | m
    · rcases List.mem_append.mp m with m | m
      · exact ok.len r (List.mem_of_mem_take m)
      · rw [List.mem_singleton.mp m]; exact Nat.zero_le _
    · exact ok.len r (List.mem_of_mem_drop m)
  · rcases List.mem_append.mp hr with m | m
    · rcases List.mem_append.mp m with m | m
      · exact ok.key r (List.mem_of_mem_take m) t ht
      · rw [List.mem_singleton.mp m] at ht; exact nomatch ht
    · exact ok.key r (List.mem_of_mem_drop m) t ht
theorem fz_ins (rs : List (List Th)) (h : Nat) : ((rs.map encO).take h ++ [W.lst false []] ++ (rs.map encO).drop h).map W.fzD = (rs.take h ++ [[]] ++ rs.drop h).map encR := by
  rw [List.map_append, List.map_append, List.map_append, List.map_append, List.map_take, List.map_drop, fz_kids, List.map_take, List.map_drop]
  rfl
theorem ok_ins (rs : List (List Th)) (h : Nat) : ∀ w ∈ (rs.map encO).take h ++ [W.lst false []] ++ (rs.map encO).drop h, w.fzOk = true := fun w hw => by
  rcases List.mem_append.mp hw with m | m
  · rcases List.mem_append.mp m with m | m
    · exact ok_kids rs w (List.mem_of_mem_take m)
    · rw [List.mem_singleton.mp m]; rfl
  · exact ok_kids rs w (List.mem_of_mem_drop m)
theorem o_tail (rs : List (List Th)) (ok : RowsOk rs) (h : Nat) (hh : h < rs.length) (way : Int) (a0 a1 a6 a7 a8 a9 : W) : ∃ (ws : List W) (rs2 : List (List Th)), RowsOk rs2 ∧ ws.map W.fzD = rs2.map encR ∧ (∀ w ∈ ws, w.fzOk = true) ∧
    othTail [a0, a1, .nst (rs.map encO), .dead, .int (h : Int), .int way, a6, a7, a8, a9] = .ok (.rt (.nst ws)) [a0, a1, .dead, .dead, .int (h : Int), .int way, a6, a7, a8, a9] := by
  have six := ok.six
  by_cases c1 : way = 4 ∧ rs.length < 6
  · obtain ⟨rfl, l6⟩ := c1
    exact ⟨_, _, ok.ins l6 h, fz_ins rs h, ok_ins rs h, o_tail4 rs l6 h hh a0 a1 a6 a7 a8 a9⟩
  · by_cases c2 : way = 5 ∧ 1 < rs.length
    · obtain ⟨rfl, l1⟩ := c2
      exact ⟨_, rs.eraseIdx h, ⟨by rw [List.length_eraseIdx, if_pos hh]; omega, by rw [List.length_eraseIdx, if_pos hh]; omega, fun r hr => ok.len r (List.mem_of_mem_eraseIdx hr), fun r hr => ok.key r (List.mem_of_mem_eraseIdx hr)⟩, fz_kids _, ok_kids _, o_tail5 rs (by omega) l1 h hh a0 a1 a6 a7 a8 a9⟩
    · exact ⟨_, rs, ok, fz_kids rs, ok_kids rs, o_tail0 rs h way a0 a1 a6 a7 a8 a9 c1 c2⟩
theorem e_othc (rs : List (List Th)) (hl : rs.length ≤ 1000) (a0 a2 a4 a5 a6 a7 a8 a9 : W) : c__law_otherwise_1 [a0, encRs rs, a2, .dead, a4, a5, a6, a7, a8, a9] = .ok (.nst (rs.map encO)) [a0, encRs rs, a2, .dead, a4, a5, a6, a7, a8, a9] := by
  have lg := line_ge
  unfold c__law_otherwise_1 encRs
  rw [compN_map encR encO (xs := rs) (by simp_arith []) (by omega) (by
    intro r hr
    refine ⟨_, rfl, rfl, [a0, .lst false (rs.map encR), a2, encR r, a4, a5, a6, a7, a8, a9], ?_, rfl⟩
    unfold encO encR
    simp_arith [])]
theorem e_otherwise (d : List Int) (rs : List (List Th)) (ok : RowsT rs) : ∃ (d' : List Int) (ws : List W) (rs2 : List (List Th)), RowsOk rs2 ∧ ws.map W.fzD = rs2.map encR ∧ (∀ w ∈ ws, w.fzOk = true) ∧ f__law_otherwise [dk d, encRs rs] = .ok (.nst ws) [dk d', .dead] := by
  have six := ok.six
  have ne := ok.ne
  obtain ⟨v, d1, v0, v1, t1⟩ := e_take d (rs.length : Int) (by omega)
  obtain ⟨h, rfl⟩ : ∃ k : Nat, v = k := ⟨v.toNat, by omega⟩
  obtain ⟨way, d2, w0, w1, t2⟩ := e_take d1 7 (by decide)
  have hh : h < rs.length := by omega
  obtain ⟨d3, rs2, b6, b7, b8, b9, q1, q2, q3⟩ := o_if d2 rs ok h hh way (encRs rs)
  obtain ⟨ws, rs3, p1, p2, p3, p4⟩ := o_tail rs2 q1 h (by omega) way (dk d3) (encRs rs) b6 b7 b8 b9
  refine ⟨d3, ws, rs3, p1, p2, p3, ?_⟩
  have ec := e_othc rs (by omega) (dk d) .dead .dead .dead .dead .dead .dead .dead
  have e0 := o_len rs (dk d) (encRs rs) .dead .dead .dead .dead .dead .dead .dead
  have unf : b__law_otherwise = sSeq (sSet 2 true (c__law_otherwise_1)) (sSeq (sSet 4 true (mCall f__law_take 2 (Sm.bind (mVar 0) fun _ => rIo 0 (rVal (mLendE 2 (mUn lenW (mVar 2))) (rNil))))) (sSeq (sSet 5 true (mCall f__law_take 2 (Sm.bind (mVar 0) fun _ => rIo 0 (rVal (mC (.int 7)) (rNil))))) (sSeq othIf othTail))) := rfl
  unfold f__law_otherwise
  rw [unf]
  unfold encRs at ec e0 q3 p4 ⊢
  simp_arith [↓ec, ↓e0, t1, t2, ↓q3, ↓p4, pick_nst]
end Ev

namespace Ev
open PySem PySem.Spec L2
local macro_rules
  | `(tactic| simp_arith [$ls,*] $[$l:location]?) => `(tactic| simp only [↓r_bind, ↓r_ret, ↓r_lft, ↓r_c, ↓r_var2, ↓r_move, ↓r_un, ↓r_bin, ↓r_chain, ↓r_toB, ↓r_ofB, ↓r_and, ↓r_or, ↓r_not, ↓r_nil, ↓r_cons, ↓r_args, ↓r_iargs, ↓r_ilst, ↓r_part, ↓r_no, ↓r_slice, ↓r_callP, ↓r_rnil, ↓r_rval, ↓r_rio, ↓r_call, ↓r_callL, ↓r_fz, ↓r_seq, ↓r_snil, ↓r_if, ↓r_drop, ↓r_sret, ↓r_set, ↓r_asg, ↓r_aug, ↓r_sfor, ↓r_mut, ↓r_sto, ↓r_go, ↓r_gfz, ↓r_push, ↓r_gfzD, ↓r_fzD,  ↓r_raise, ↓r_try, ↓r_itup, ↓r_iseq, ↓r_andV, ↓r_orV, ↓r_notV, ↓r_fn, ↓r_meth, ↓r_augS, ↓r_ichr, ↓r_pair, ↓r_mutN, ↓r_mutT, ↓r_app, ↓r_gfzC, ↓r_callO, ↓r_asgN, ↓r_takeK, pick_nst, pick_ntp, w_strL, w_zip3, ↓r_dnew, ↓r_key1, ↓r_keyT, ↓r_dget, ↓r_dget2, ↓r_dput, ↓r_mutP, ↓r_mutKP, ↓r_stoP, ↓r_stoN, ↓r_dputP, ↓r_fldP, ↓r_callM, ↓r_makeL, ↓r_gfzK, ↓r_gfzP, ↓r_dpopP, ↓r_augP, ↓r_forP, ↓r_chainI, ↓r_callT, ↓r_ikeys, ↓r_keyCut, w_keyI, w_keyS, w_keyT2, w_lookT, w_lookK, w_lookDT, w_lookDK, w_dputT, w_dputK, w_dkeysT, w_dkeysK, isDW_dct, frz_dct, pick_dct, w_geX, ty_str, and_self,
      maskL_nil, maskL_cons, frz_non, frz_bl, frz_int, frz_str, frz_tup, frz_lst, frz_scr, fz_lst, fz_int, fz_tup, fz_str, fz_bl, w_lst, w_tup, w_add, w_addL, w_addB, w_sub, w_mul, w_rep, w_fdiv, w_mod, w_pow, w_neg, w_lt, w_le, w_ge, w_gt, w_bl, w_intW, w_toI, w_toB, w_max2, w_min2, w_abs, w_lenL, w_lenC, w_lenT, w_listL, w_listC, w_listT, w_tupL, w_rev, w_ixL, w_ixC, w_ixT, w_cutL, w_cutC, w_frzL, w_frzC, w_rng1, w_rng2, w_enum, w_enumC, w_zip, w_app, w_ext, w_pop, w_sum, w_isx, w_isiI, w_isiB, w_tgN, w_tgT, w_killN, w_killC, w_takeN, w_takeV, w_takeI, w_putI, w_putV, w_putN, w_lendN, w_lendV, w_lendI, flat_bl, flat_int, flat_non,
      pick_non, pick_bl, pick_int, pick_str, pick_tup, pick_lst, pick_scr, pick_exc, pick_T, pick_R, pick_N, frzT, frzR, frzN, w_seqL, w_seqT, w_seqC, w_zipT, w_zipA, w_tupLt, w_leX, eqW_int, neW_int, eqW_nil, neW_nil, eqW_str, neW_str, List.cons_append, List.nil_append, List.length_cons, List.length_nil, List.replicate_succ, List.replicate_zero, List.getElem?_cons_zero, List.getElem?_cons_succ, List.set_cons_zero, List.set_cons_succ, List.length_map, Option.map_some, Option.bind_some, cond_true, cond_false, Bool.true_or, Bool.or_true, Bool.false_or, Bool.or_false, Bool.not_true, Bool.not_false, Bool.true_and, Bool.false_and, Nat.reduceSub, Nat.reduceAdd, Nat.reduceLeDiff, ↓reduceIte, if_true, if_false, reduceCtorEq, decide_true, decide_false, decide_eq_true_eq, Nat.zero_add, Nat.add_zero, $ls,*] $[$l]?)
/-! ### a name, written -/
def nmS (a b c : Int) : Str := Txt.join "." [keyS a, keyS b, keyS c]
theorem point_len : Str.length "." = 1 := rfl
theorem nm_split (a b c : Int) : Txt.split (nmS a b c) "." = [keyS a, keyS b, keyS c] := by
  unfold nmS
  refine TL.split_join (s := 46) (S := []) rfl (by decide +kernel) (by simp) fun p hp => ?_
  have free : ∀ k : Int, (46 : Nat) ∉ TL.tl (keyS k) := fun k => by rw [tl_key]; exact keyL_free (by decide) (by decide) k
  simp only [List.mem_cons, List.not_mem_nil, or_false] at hp
  rcases hp with rfl | rfl | rfl <;> exact free _
theorem keyS_inj {a b : Int} (ha : keyOk a) (hb : keyOk b) (h : keyS a = keyS b) : a = b := by
  have h1 := (ok_key a ha).2
  have h2 := (ok_key b hb).2
  rw [← tl_key, h, tl_key, h2] at h1
  exact h1.symm
theorem nmS_inj {a b c a2 b2 c2 : Int} (h1 : keyOk a) (h2 : keyOk b) (h3 : keyOk c) (g1 : keyOk a2) (g2 : keyOk b2) (g3 : keyOk c2) (h : nmS a b c = nmS a2 b2 c2) : a = a2 ∧ b = b2 ∧ c = c2 := by
  have e := nm_split a b c
  rw [h, nm_split] at e
  simp only [List.cons.injEq, and_true] at e
  exact ⟨(keyS_inj g1 h1 e.1).symm, (keyS_inj g2 h2 e.2.1).symm, (keyS_inj g3 h3 e.2.2).symm⟩
theorem nmS_plain (a b c : Int) : keyS a ++ "." ++ keyS b ++ "." ++ keyS c = nmS a b c := by
  refine TL.ext_tl ?_
  unfold nmS
  rw [TL.join_eq, TL.tl_join, TL.tl_append, TL.tl_append, TL.tl_append, TL.tl_append]
  show _ = TL.tl (keyS a) ++ (TL.tl "." ++ (TL.tl (keyS b) ++ (TL.tl "." ++ TL.tl (keyS c))))
  rw [List.append_assoc, List.append_assoc, List.append_assoc]
theorem nm_jn (a b c : Int) (h1 : keyOk a) (h2 : keyOk b) (h3 : keyOk c) : jnOk "." [keyS a, keyS b, keyS c] := by
  have k1 := keyS_len a h1
  have k2 := keyS_len b h2
  have k3 := keyS_len c h3
  unfold jnOk
  rw [point_len]
  simp only [List.map_cons, List.map_nil, List.sum_cons, List.sum_nil, List.length_cons, List.length_nil]
  omega
theorem e_show_name (a b c : Int) (h1 : keyOk a) (h2 : keyOk b) (h3 : keyOk c) : f_show_name [.tup [.int a, .int b, .int c]] = .ok (.str (nmS a b c)) [.dead] := by
  have lg := line_ge
  have hc : c_show_name_1 [.tup [.int a, .int b, .int c], .dead] = .ok (.lst true ([keyS a, keyS b, keyS c].map W.str)) [.tup [.int a, .int b, .int c], .dead] := by
    unfold c_show_name_1
    rw [comp_map W.int (fun k => W.str (keyS k)) (xs := [a, b, c]) (by simp_arith []; rfl) (by show 3 ≤ sizeLine; omega) (by
      intro k hk
      have ok : keyOk k := by
        simp only [List.mem_cons, List.not_mem_nil, or_false] at hk
        rcases hk with rfl | rfl | rfl
        · exact h1
        · exact h2
        · exact h3
      unfold lcOne
      simp_arith [w_strOf k (keyOk_log ok)])]
    rfl
  unfold f_show_name b_show_name
  simp_arith [hc, w_join (nm_jn a b c h1 h2 h3), nmS]
theorem w_nm (a b c : Int) (h1 : keyOk a) (h2 : keyOk b) (h3 : keyOk c) : addW false (.str (keyS a)) (.str ".") = some (.str (keyS a ++ ".")) ∧ addW false (.str (keyS a ++ ".")) (.str (keyS b)) = some (.str (keyS a ++ "." ++ keyS b)) ∧
    addW false (.str (keyS a ++ "." ++ keyS b)) (.str ".") = some (.str (keyS a ++ "." ++ keyS b ++ ".")) ∧ addW false (.str (keyS a ++ "." ++ keyS b ++ ".")) (.str (keyS c)) = some (.str (nmS a b c)) := by
  have lg := line_ge
  have k1 := keyS_len a h1
  have k2 := keyS_len b h2
  have k3 := keyS_len c h3
  have p := point_len
  refine ⟨w_addZ _ _ _ (by omega), w_addZ _ _ _ (by rw [Str.length_append]; omega), w_addZ _ _ _ (by rw [Str.length_append, Str.length_append]; omega), ?_⟩
  rw [w_addZ _ _ _ (by rw [Str.length_append, Str.length_append, Str.length_append]; omega), nmS_plain]
theorem keyOk_nat {n : Nat} (h : n ≤ 100000) : keyOk (n : Int) := keyOk_of (by omega) (by omega)
/-! ### names -/
theorem nmRow_nd (h : Nat) (r : List Th) : (nmRow h r).Nodup := by
  unfold nmRow
  unfold List.Nodup
  rw [List.pairwise_map]
  exact List.pairwise_lt_range.imp fun {a b} hab e => by
    have := congrArg (fun x : Nm => x.2.2) e
    dsimp only at this
    omega
theorem all_nd (rs : List (List Th)) : (nmAll rs).Nodup := by
  unfold nmAll
  rw [List.flatMap_def]
  unfold List.Nodup
  rw [List.pairwise_flatten]
  refine ⟨fun l hl => ?_, ?_⟩
  · obtain ⟨i, _, rfl⟩ := List.mem_map.mp hl
    exact nmRow_nd i _
  · rw [List.pairwise_map]
    refine List.pairwise_lt_range.imp fun {a b} hab x hx y hy e => ?_
    obtain ⟨p, _, rfl⟩ := List.mem_map.mp hx
    obtain ⟨q, _, rfl⟩ := List.mem_map.mp hy
    have := congrArg (fun x : Nm => x.2.1) e
    dsimp only at this
    omega
def nmOk (x : Nm) : Prop := keyOk x.1 ∧ x.2.1 ≤ 100000 ∧ x.2.2 ≤ 100000
theorem all_ok {rs : List (List Th)} (ok : RowsOk rs) : ∀ x ∈ nmAll rs, nmOk x := fun x hx => by
  obtain ⟨h, hh, hm⟩ := List.mem_flatMap.mp hx
  obtain ⟨p, hp, rfl⟩ := List.mem_map.mp hm
  have six := ok.six
  have h1 := List.mem_range.mp hh
  have h2 := List.mem_range.mp hp
  have m := rowAt_mem h1
  have l := ok.len _ m
  refine ⟨?_, by show h ≤ _; omega, by show p ≤ _; omega⟩
  show keyOk (keyAt (rowAt rs h) p)
  rw [keyAt_eq _ _ h2]
  exact (ok.key _ m _ (List.getElem_mem h2)).1
theorem srt_permN (l : List Nm) : (srt l).Perm l := by
  unfold srt
  exact List.mergeSort_perm _ _
def toldS (x : Nm) : Str := nmS x.1 (x.2.1 : Nat) (x.2.2 : Nat)
theorem told_nd {rs : List (List Th)} (ok : RowsOk rs) : ((srt (nmAll rs)).map toldS).Nodup := by
  have nd : (srt (nmAll rs)).Nodup := (srt_permN _).nodup_iff.mpr (all_nd rs)
  have hk : ∀ x ∈ srt (nmAll rs), nmOk x := fun x hx => all_ok ok x ((srt_permN _).mem_iff.mp hx)
  generalize srt (nmAll rs) = l at nd hk
  induction l with
  | nil => exact List.nodup_nil
  | cons a l ih =>
    obtain ⟨n1, n2⟩ := List.nodup_cons.mp nd
    rw [List.map_cons]
    refine List.nodup_cons.mpr ⟨fun hm => ?_, ih n2 fun x hx => hk x (List.mem_cons_of_mem _ hx)⟩
    obtain ⟨y, hy, e⟩ := List.mem_map.mp hm
    have ka := hk a List.mem_cons_self
    have ky := hk y (List.mem_cons_of_mem _ hy)
    obtain ⟨e1, e2, e3⟩ := nmS_inj ky.1 (keyOk_nat ky.2.1) (keyOk_nat ky.2.2) ka.1 (keyOk_nat ka.2.1) (keyOk_nat ka.2.2) e
    have : y = a := Prod.ext e1 (Prod.ext (by omega) (by omega))
    rw [this] at hy
    exact n1 hy
end Ev

namespace Ev
open PySem PySem.Spec L2
local macro_rules
  | `(tactic| simp_arith [$ls,*] $[$l:location]?) => `(tactic| simp only [↓r_bind, ↓r_ret, ↓r_lft, ↓r_c, ↓r_var2, ↓r_move, ↓r_un, ↓r_bin, ↓r_chain, ↓r_toB, ↓r_ofB, ↓r_and, ↓r_or, ↓r_not, ↓r_nil, ↓r_cons, ↓r_args, ↓r_iargs, ↓r_ilst, ↓r_part, ↓r_no, ↓r_slice, ↓r_callP, ↓r_rnil, ↓r_rval, ↓r_rio, ↓r_call, ↓r_callL, ↓r_fz, ↓r_seq, ↓r_snil, ↓r_if, ↓r_drop, ↓r_sret, ↓r_set, ↓r_asg, ↓r_aug, ↓r_sfor, ↓r_mut, ↓r_sto, ↓r_go, ↓r_gfz, ↓r_push, ↓r_gfzD, ↓r_fzD,  ↓r_raise, ↓r_try, ↓r_itup, ↓r_iseq, ↓r_andV, ↓r_orV, ↓r_notV, ↓r_fn, ↓r_meth, ↓r_augS, ↓r_ichr, ↓r_pair, ↓r_mutN, ↓r_mutT, ↓r_app, ↓r_gfzC, ↓r_callO, ↓r_asgN, ↓r_takeK, pick_nst, pick_ntp, w_strL, w_zip3, ↓r_dnew, ↓r_key1, ↓r_keyT, ↓r_dget, ↓r_dget2, ↓r_dput, ↓r_mutP, ↓r_mutKP, ↓r_stoP, ↓r_stoN, ↓r_dputP, ↓r_fldP, ↓r_callM, ↓r_makeL, ↓r_gfzK, ↓r_gfzP, ↓r_dpopP, ↓r_augP, ↓r_forP, ↓r_chainI, ↓r_callT, ↓r_ikeys, ↓r_keyCut, w_keyI, w_keyS, w_keyT2, w_lookT, w_lookK, w_lookDT, w_lookDK, w_dputT, w_dputK, w_dkeysT, w_dkeysK, isDW_dct, frz_dct, pick_dct, w_geX, ty_str, and_self,
      maskL_nil, maskL_cons, frz_non, frz_bl, frz_int, frz_str, frz_tup, frz_lst, frz_scr, fz_lst, fz_int, fz_tup, fz_str, fz_bl, w_lst, w_tup, w_add, w_addL, w_addB, w_sub, w_mul, w_rep, w_fdiv, w_mod, w_pow, w_neg, w_lt, w_le, w_ge, w_gt, w_bl, w_intW, w_toI, w_toB, w_max2, w_min2, w_abs, w_lenL, w_lenC, w_lenT, w_listL, w_listC, w_listT, w_tupL, w_rev, w_ixL, w_ixC, w_ixT, w_cutL, w_cutC, w_frzL, w_frzC, w_rng1, w_rng2, w_enum, w_enumC, w_zip, w_app, w_ext, w_pop, w_sum, w_isx, w_isiI, w_isiB, w_tgN, w_tgT, w_killN, w_killC, w_takeN, w_takeV, w_takeI, w_putI, w_putV, w_putN, w_lendN, w_lendV, w_lendI, flat_bl, flat_int, flat_non,
      pick_non, pick_bl, pick_int, pick_str, pick_tup, pick_lst, pick_scr, pick_exc, pick_T, pick_R, pick_N, frzT, frzR, frzN, w_seqL, w_seqT, w_seqC, w_zipT, w_zipA, w_tupLt, w_leX, eqW_int, neW_int, eqW_nil, neW_nil, eqW_str, neW_str, List.cons_append, List.nil_append, List.length_cons, List.length_nil, List.replicate_succ, List.replicate_zero, List.getElem?_cons_zero, List.getElem?_cons_succ, List.set_cons_zero, List.set_cons_succ, List.length_map, Option.map_some, Option.bind_some, cond_true, cond_false, Bool.true_or, Bool.or_true, Bool.false_or, Bool.or_false, Bool.not_true, Bool.not_false, Bool.true_and, Bool.false_and, Nat.reduceSub, Nat.reduceAdd, Nat.reduceLeDiff, ↓reduceIte, if_true, if_false, reduceCtorEq, decide_true, decide_false, decide_eq_true_eq, Nat.zero_add, Nat.add_zero, $ls,*] $[$l]?)
/-! ### the law -/
theorem EncOk.blB : EncOk W.bl 0 := ⟨fun _ => rfl, fun _ => rfl, fun a b => by cases a <;> cases b <;> simp [W.dat, PyData.eqv], fun a => by simp [W.dat, PyData.depth]⟩
theorem neW_blB (b : Bool) : neW (.bl b) (.bl b) = some (.bl false) := by
  rw [neW_of EncOk.blB, decide_eq_true rfl]
  rfl
theorem rowsS_one (r : List Th) : rowsS [r] = rowS r := by
  unfold rowsS
  rw [TL.join_eq]
  rfl
theorem encO_inj {rs rs2 : List (List Th)} (h : rs.map encO = rs2.map encO) : rs = rs2 := by
  have e : (W.nst (rs.map encO)).fzD = (W.nst (rs2.map encO)).fzD := by rw [h]
  rw [fz_nst, fz_nst] at e
  have h1 := neW_lst okR false false rs rs2
  have h2 := neW_lst okR false false rs2 rs2
  rw [e, h2] at h1
  simp only [decide_true, Bool.not_true, Option.some.injEq, W.bl.injEq] at h1
  by_cases c : rs = rs2
  · exact c
  · rw [decide_eq_false c] at h1
    cases h1
theorem RowsOk.l3 {rs : List (List Th)} (ok : RowsOk rs) : ∀ r ∈ rs, r.length ≤ 300 := fun r hr => by have := ok.len r hr; omega
theorem rowsS_inj {rs rs2 : List (List Th)} (ok : RowsOk rs) (ok2 : RowsOk rs2) : decide (rowsS rs = rowsS rs2) = decide (rs = rs2) := by
  rw [Bool.eq_iff_iff, decide_eq_true_eq, decide_eq_true_eq]
  refine ⟨fun e => ?_, fun e => by rw [e]⟩
  have h1 := e_readrows rs ok.ne ok.six ok.key ok.l3
  have h2 := e_readrows rs2 ok2.ne ok2.six ok2.key ok2.l3
  rw [e, h2] at h1
  simp only [Out.ok.injEq, W.nst.injEq, and_true] at h1
  exact (encO_inj h1).symm
theorem RowsOk.one {rs : List (List Th)} (ok : RowsOk rs) {r : List Th} (hr : r ∈ rs) : RowsOk [r] :=
  ⟨by simp, by simp, fun x hx => by rw [List.mem_singleton.mp hx]; exact ok.len r hr, fun x hx => by rw [List.mem_singleton.mp hx]; exact ok.key r hr⟩
theorem part_turn (rs : List (List Th)) (ok : RowsOk rs) (r : List Th) (hr : r ∈ rs) (a0 a1 a2 a3 a4 a5 a6 a7 a10 a11 a12 a13 a14 a15 : W) :
    turn (tgT [8, 9]) b_law_3 [8, 9] (.tup [encR r, .str (rowS r)]) [a0, a1, a2, a3, a4, a5, a6, a7, .dead, .dead, a10, a11, a12, a13, a14, a15] = .ok .nx [a0, a1, a2, a3, a4, a5, a6, a7, .dead, .dead, a10, a11, a12, a13, a14, a15] := by
  have lg := line_ge
  have ok1 := ok.one hr
  have e1 := e_readrows [r] ok1.ne ok1.six ok1.key ok1.l3
  have e2 := e_show_rows [r] ok1.key ok1.l3 (by simp)
  rw [rowsS_one] at e1 e2
  have fz := fz_nst [r]
  have fo := ok_nst [r]
  have ne := neW_lst okR false false [r] [r]
  rw [decide_eq_true rfl] at ne
  unfold encRs at e2
  simp only [List.map_cons, List.map_nil] at e1 e2 fz fo ne
  have h1 : 1 ≤ sizeLine := by omega
  unfold turn b_law_3
  simp_arith [tgL, e1, e2, fz, fo, ne, h1, pick_R, frzR]
theorem zip_rows (rs : List (List Th)) : (List.zip (rs.map encR) ((rs.map rowS).map W.str)).map (fun q => W.tup [q.1, q.2]) = rs.map fun r => W.tup [encR r, .str (rowS r)] := by
  rw [List.map_map, List.zip_map', List.map_map]
  rfl
theorem pair_turn (ps ts : List W) (R : List (List Th)) (ok : RowsOk R) (j : Nat) (hp : atI ps (0 + (j : Int)) = some (encRs R)) (ht : atI ts (0 + (j : Int)) = some (.str (rowsS R))) (a0 a1 a2 a3 a6 a10 a11 a12 a13 a14 a15 : W) :
    turn (tgN 7) b_law_2 [7, 8, 9] (.int (0 + (j : Int))) [a0, a1, a2, a3, .lst false ps, .lst false ts, a6, .dead, .dead, .dead, a10, a11, a12, a13, a14, a15] = .ok .nx [a0, a1, a2, a3, .lst false ps, .lst false ts, a6, .dead, .dead, .dead, a10, a11, a12, a13, a14, a15] := by
  have lg := line_ge
  have six := ok.six
  have hne : R ≠ [] := fun z => by have := ok.ne; rw [z] at this; exact absurd this (by decide)
  have e1 := e_readrows R ok.ne ok.six ok.key ok.l3
  have e2 := e_show_rows R ok.key ok.l3 (by omega)
  have fz := fz_nst R
  have fo := ok_nst R
  have ne := neW_lst okR false false R R
  rw [decide_eq_true rfl] at ne
  have hlen := rowsS_len R ok.key ok.l3 (by omega)
  have sp : split1W false (.str (rowsS R)) [.str "; "] = some (.lst false ((R.map rowS).map W.str)) := by rw [w_split (sp_ok _ _ semi_ne (by omega)), split_rows R hne ok.key]
  have lp := fun a7 => mFor_all (f := tgT [8, 9]) (body := b_law_3) (kill := [8, 9]) (fun r : List Th => W.tup [encR r, .str (rowS r)]) (xs := R) (env := [a0, a1, a2, a3, .lst false ps, .lst false ts, a6, a7, .dead, .dead, a10, a11, a12, a13, a14, a15]) fun r hr => part_turn R ok r hr a0 a1 a2 a3 (.lst false ps) (.lst false ts) a6 a7 a10 a11 a12 a13 a14 a15
  have zp := zip_rows R
  unfold encRs at e2 hp
  unfold turn b_law_2
  simp_arith [hp, ht, e1, e2, fz, fo, ne, sp, zp, lp]
end Ev

namespace Ev
open PySem PySem.Spec L2
local macro_rules
  | `(tactic| simp_arith [$ls,*] $[$l:location]?) => `(tactic| simp only [↓r_bind, ↓r_ret, ↓r_lft, ↓r_c, ↓r_var2, ↓r_move, ↓r_un, ↓r_bin, ↓r_chain, ↓r_toB, ↓r_ofB, ↓r_and, ↓r_or, ↓r_not, ↓r_nil, ↓r_cons, ↓r_args, ↓r_iargs, ↓r_ilst, ↓r_part, ↓r_no, ↓r_slice, ↓r_callP, ↓r_rnil, ↓r_rval, ↓r_rio, ↓r_call, ↓r_callL, ↓r_fz, ↓r_seq, ↓r_snil, ↓r_if, ↓r_drop, ↓r_sret, ↓r_set, ↓r_asg, ↓r_aug, ↓r_sfor, ↓r_mut, ↓r_sto, ↓r_go, ↓r_gfz, ↓r_push, ↓r_gfzD, ↓r_fzD,  ↓r_raise, ↓r_try, ↓r_itup, ↓r_iseq, ↓r_andV, ↓r_orV, ↓r_notV, ↓r_fn, ↓r_meth, ↓r_augS, ↓r_ichr, ↓r_pair, ↓r_mutN, ↓r_mutT, ↓r_app, ↓r_gfzC, ↓r_callO, ↓r_asgN, ↓r_takeK, pick_nst, pick_ntp, w_strL, w_zip3, ↓r_dnew, ↓r_key1, ↓r_keyT, ↓r_dget, ↓r_dget2, ↓r_dput, ↓r_mutP, ↓r_mutKP, ↓r_stoP, ↓r_stoN, ↓r_dputP, ↓r_fldP, ↓r_callM, ↓r_makeL, ↓r_gfzK, ↓r_gfzP, ↓r_dpopP, ↓r_augP, ↓r_forP, ↓r_chainI, ↓r_callT, ↓r_ikeys, ↓r_keyCut, w_keyI, w_keyS, w_keyT2, w_lookT, w_lookK, w_lookDT, w_lookDK, w_dputT, w_dputK, w_dkeysT, w_dkeysK, isDW_dct, frz_dct, pick_dct, w_geX, ty_str, and_self,
      maskL_nil, maskL_cons, frz_non, frz_bl, frz_int, frz_str, frz_tup, frz_lst, frz_scr, fz_lst, fz_int, fz_tup, fz_str, fz_bl, w_lst, w_tup, w_add, w_addL, w_addB, w_sub, w_mul, w_rep, w_fdiv, w_mod, w_pow, w_neg, w_lt, w_le, w_ge, w_gt, w_bl, w_intW, w_toI, w_toB, w_max2, w_min2, w_abs, w_lenL, w_lenC, w_lenT, w_listL, w_listC, w_listT, w_tupL, w_rev, w_ixL, w_ixC, w_ixT, w_cutL, w_cutC, w_frzL, w_frzC, w_rng1, w_rng2, w_enum, w_enumC, w_zip, w_app, w_ext, w_pop, w_sum, w_isx, w_isiI, w_isiB, w_tgN, w_tgT, w_killN, w_killC, w_takeN, w_takeV, w_takeI, w_putI, w_putV, w_putN, w_lendN, w_lendV, w_lendI, flat_bl, flat_int, flat_non,
      pick_non, pick_bl, pick_int, pick_str, pick_tup, pick_lst, pick_scr, pick_exc, pick_T, pick_R, pick_N, frzT, frzR, frzN, w_seqL, w_seqT, w_seqC, w_zipT, w_zipA, w_tupLt, w_leX, eqW_int, neW_int, eqW_nil, neW_nil, eqW_str, neW_str, List.cons_append, List.nil_append, List.length_cons, List.length_nil, List.replicate_succ, List.replicate_zero, List.getElem?_cons_zero, List.getElem?_cons_succ, List.set_cons_zero, List.set_cons_succ, List.length_map, Option.map_some, Option.bind_some, cond_true, cond_false, Bool.true_or, Bool.or_true, Bool.false_or, Bool.or_false, Bool.not_true, Bool.not_false, Bool.true_and, Bool.false_and, Nat.reduceSub, Nat.reduceAdd, Nat.reduceLeDiff, ↓reduceIte, if_true, if_false, reduceCtorEq, decide_true, decide_false, decide_eq_true_eq, Nat.zero_add, Nat.add_zero, $ls,*] $[$l]?)
theorem all_len {rs : List (List Th)} (ok : RowsOk rs) : (nmAll rs).length ≤ 1200 := by
  have h := flat_len (fun h => nmRow h (rowAt rs h)) 200 (List.range rs.length) fun h hh => by
    rw [nmRow_len]
    exact ok.len _ (rowAt_mem (List.mem_range.mp hh))
  have six := ok.six
  rw [List.length_range] at h
  unfold nmAll
  omega
theorem nm_ok {rs : List (List Th)} (ok : RowsOk rs) : ∀ x ∈ srt (nmAll rs), nmOk x := fun x hx => all_ok ok x ((srt_permN _).mem_iff.mp hx)
theorem e_told (l : List Nm) (hl : l.length ≤ 1200) (hk : ∀ x ∈ l, nmOk x) (a0 a1 a2 a3 a4 a5 a6 a7 a8 a9 a11 a13 a14 a15 : W) :
    c_law_2 [a0, a1, a2, a3, a4, a5, a6, a7, a8, a9, .lst false (l.map encN), a11, .dead, a13, a14, a15] = .ok (.lst true ((l.map toldS).map W.str)) [a0, a1, a2, a3, a4, a5, a6, a7, a8, a9, .lst false (l.map encN), a11, .dead, a13, a14, a15] := by
  have lg := line_ge
  unfold c_law_2
  rw [comp_map encN (fun x => W.str (toldS x)) (xs := l) (by simp_arith []) (by omega) (by
    intro x hx
    have k := hk x hx
    have e := e_show_name x.1 (x.2.1 : Nat) (x.2.2 : Nat) k.1 (keyOk_nat k.2.1) (keyOk_nat k.2.2)
    have ex : encN x = .tup [.int x.1, .int (x.2.1 : Nat), .int (x.2.2 : Nat)] := rfl
    unfold lcOne toldS
    rw [ex]
    simp_arith [e]), List.map_map]
  rfl
theorem e_plainly (l : List Nm) (hl : l.length ≤ 1200) (hk : ∀ x ∈ l, nmOk x) (a0 a1 a2 a3 a4 a5 a6 a7 a8 a9 a11 a12 : W) :
    c_law_3 [a0, a1, a2, a3, a4, a5, a6, a7, a8, a9, .lst false (l.map encN), a11, a12, .dead, .dead, .dead] = .ok (.lst true ((l.map toldS).map W.str)) [a0, a1, a2, a3, a4, a5, a6, a7, a8, a9, .lst false (l.map encN), a11, a12, .dead, .dead, .dead] := by
  have lg := line_ge
  unfold c_law_3
  rw [comp_map encN (fun x => W.str (toldS x)) (xs := l) (by simp_arith []) (by omega) (by
    intro x hx
    have k := hk x hx
    have k2 := keyOk_nat k.2.1
    have k3 := keyOk_nat k.2.2
    have w := w_nm x.1 (x.2.1 : Nat) (x.2.2 : Nat) k.1 k2 k3
    have ex : encN x = .tup [.int x.1, .int (x.2.1 : Nat), .int (x.2.2 : Nat)] := rfl
    unfold lcOne toldS
    rw [ex]
    simp_arith [tgL, w_strOf x.1 (keyOk_log k.1), w_strOf (x.2.1 : Nat) (keyOk_log k2), w_strOf (x.2.2 : Nat) (keyOk_log k3), w.1, w.2.1, w.2.2.1, w.2.2.2]), List.map_map]
  rfl
theorem e_texts (rs rs2 : List (List Th)) (ok : RowsOk rs) (ok2 : RowsOk rs2) (a0 a1 a2 a3 a5 a7 a8 a9 a10 a11 a12 a13 a14 a15 : W) :
    c_law_1 [a0, a1, a2, a3, .lst false [encRs rs, encRs rs2], a5, .dead, a7, a8, a9, a10, a11, a12, a13, a14, a15] = .ok (.lst true [.str (rowsS rs), .str (rowsS rs2)]) [a0, a1, a2, a3, .lst false [encRs rs, encRs rs2], a5, .dead, a7, a8, a9, a10, a11, a12, a13, a14, a15] := by
  have lg := line_ge
  unfold c_law_1
  rw [comp_map encRs (fun r => W.str (rowsS r)) (xs := [rs, rs2]) (by simp_arith []; rfl) (by show 2 ≤ sizeLine; omega) (by
    intro R hR
    have ok3 : RowsOk R := by
      simp only [List.mem_cons, List.not_mem_nil, or_false] at hR
      rcases hR with rfl | rfl
      · exact ok
      · exact ok2
    have six := ok3.six
    have e := e_show_rows R ok3.key ok3.l3 (by omega)
    unfold lcOne
    unfold encRs at e ⊢
    simp_arith [e])]
  rfl
noncomputable def rowsM : Sm Fl := (sSeq (sIf (toB (mBin neW true (mBin eqW true (mBin ixW true (mVar 5) (mC (.int 0))) (mBin ixW true (mVar 5) (mC (.int 1)))) (mBin eqW true (mBin ixW true (mVar 4) (mC (.int 0))) (mBin ixW true (mVar 4) (mC (.int 1)))))) (sRet true (mC (.bl false))) (sNil)) (sFor (tgN 7) b_law_2 [7, 8, 9] (iArgs rng1 (mCons (mC (.int 2)) (mNil)))))
noncomputable def namesM : Sm Fl := (sSeq (sSet 10 true (mFz (mCallP f_names_plainly (Sm.bind (mCons (mVar 3) (mNil)) fun ws => if ws.length = 1 then Sm.ret ws else fun _ => .bad)))) (sSeq (sSet 11 true (mFz (c_law_2))) (sSeq (sIf (toB (mBin neW true (mVar 11) (mFz (c_law_3)))) (sRet true (mC (.bl false))) (sNil)) (sSeq (sIf (toB (mBin neW true (mUn lenSetW (mVar 11)) (mUn lenW (mVar 10)))) (sRet true (mC (.bl false))) (sNil)) (sSeq (sPar3 13 14 15 (mCons (mCall f__law_key 1 (Sm.bind (mVar 2) fun _ => rIo 2 (rNil))) (mCons (mCall f__law_take 2 (Sm.bind (mVar 2) fun _ => rIo 2 (rVal (mC (.int 6)) (rNil)))) (mCons (mCall f__law_take 2 (Sm.bind (mVar 2) fun _ => rIo 2 (rVal (mC (.int 1200)) (rNil)))) (mNil))))) (sIf (toB (mBin neW true (mCallP f_show_name (Sm.bind (mCons (mArgs tupW (mCons (mVar 13) (mCons (mVar 14) (mCons (mVar 15) (mNil))))) (mNil)) fun ws => if ws.length = 1 then Sm.ret ws else fun _ => .bad)) (mBin (addW false) true (mBin (addW false) true (mBin (addW false) true (mBin (addW false) true (mUn strOfW (mVar 13)) (mC (.str "."))) (mUn strOfW (mVar 14))) (mC (.str "."))) (mUn strOfW (mVar 15))))) (sRet true (mC (.bl false))) (sNil)))))))
theorem law_rows (rs rs2 : List (List Th)) (ok : RowsOk rs) (ok2 : RowsOk rs2) (a0 a1 a2 a3 : W) :
    rowsM [a0, a1, a2, a3, .lst false [encRs rs, encRs rs2], .lst false [.str (rowsS rs), .str (rowsS rs2)], .dead, .dead, .dead, .dead, .dead, .dead, .dead, .dead, .dead, .dead] =
      .ok .nx [a0, a1, a2, a3, .lst false [encRs rs, encRs rs2], .lst false [.str (rowsS rs), .str (rowsS rs2)], .dead, .dead, .dead, .dead, .dead, .dead, .dead, .dead, .dead, .dead] := by
  have x0 : ∀ x y : W, atI [x, y] 0 = some x := fun _ _ => rfl
  have x1 : ∀ x y : W, atI [x, y] 1 = some y := fun _ _ => rfl
  have eq := eqW_lst okR false false rs rs2
  have es : eqW (.str (rowsS rs)) (.str (rowsS rs2)) = some (.bl (decide (rs = rs2))) := by rw [eqW_str, rowsS_inj ok ok2]
  have nb := neW_blB (decide (rs = rs2))
  have hr : rngOk 2 := rngOk_of (by decide) (by decide)
  have lp := mFor_all (f := tgN 7) (body := b_law_2) (kill := [7, 8, 9]) (fun j : Nat => W.int (0 + (j : Int))) (xs := List.range 2)
    (env := [a0, a1, a2, a3, .lst false [encRs rs, encRs rs2], .lst false [.str (rowsS rs), .str (rowsS rs2)], .dead, .dead, .dead, .dead, .dead, .dead, .dead, .dead, .dead, .dead]) fun j hj => by
      have : j = 0 ∨ j = 1 := by have := List.mem_range.mp hj; omega
      rcases this with rfl | rfl
      · exact pair_turn _ _ rs ok 0 rfl rfl a0 a1 a2 a3 .dead .dead .dead .dead .dead .dead .dead
      · exact pair_turn _ _ rs2 ok2 1 rfl rfl a0 a1 a2 a3 .dead .dead .dead .dead .dead .dead .dead
  obtain ⟨c, hc⟩ : ∃ c : Bool, c = decide (rs = rs2) := ⟨_, rfl⟩
  rw [← hc] at eq es nb
  have e2 : (2 : Int).toNat = 2 := rfl
  unfold rowsM
  unfold encRs at lp ⊢
  simp_arith [x0, x1, ↓es, eq, nb, hr, rngL_nat, e2, lp]
theorem law_names (rs : List (List Th)) (ok : RowsOk rs) (d : List Int) (a0 a1 a4 a5 : W) : ∃ (d2 : List Int) (b10 b11 b13 b14 b15 : W),
    namesM [a0, a1, dk d, encRs rs, a4, a5, .dead, .dead, .dead, .dead, .dead, .dead, .dead, .dead, .dead, .dead] = .ok .nx [a0, a1, dk d2, encRs rs, a4, a5, .dead, .dead, .dead, .dead, b10, b11, .dead, b13, b14, b15] := by
  have lg := line_ge
  have en := e_names rs ok.small
  have hk := nm_ok ok
  have nd := told_nd ok
  have hl : (srt (nmAll rs)).length ≤ 1200 := by rw [srt_len]; exact all_len ok
  obtain ⟨l, hll⟩ : ∃ l, l = srt (nmAll rs) := ⟨_, rfl⟩
  rw [← hll] at en hk nd hl
  obtain ⟨v, d1, kv, t1⟩ := e_key d
  obtain ⟨h, d2, h0, h1, t2⟩ := e_take d1 6 (by decide)
  obtain ⟨p, d3, p0, p1, t3⟩ := e_take d2 1200 (by decide)
  have e1 := fun a2 a11 => e_told l hl hk a0 a1 a2 (encRs rs) a4 a5 .dead .dead .dead .dead a11 .dead .dead .dead
  have e2 := fun a2 a11 => e_plainly l hl hk a0 a1 a2 (encRs rs) a4 a5 .dead .dead .dead .dead a11 .dead
  have ne := neW_lst EncOk.str false false (l.map toldS) (l.map toldS)
  rw [decide_eq_true rfl] at ne
  have ls := w_lenSet false (l.map toldS) nd (by rw [List.length_map]; omega)
  rw [List.length_map] at ls
  have kh : keyOk h := keyOk_of (by omega) (by omega)
  have kp : keyOk p := keyOk_of (by omega) (by omega)
  have sn := e_show_name v h p kv.ok kh kp
  have w := w_nm v h p kv.ok kh kp
  have h3 : 3 ≤ sizeLine := by omega
  refine ⟨d3, .lst false (l.map encN), .lst false ((l.map toldS).map W.str), .int v, .int h, .int p, ?_⟩
  unfold namesM
  unfold encRs at en e1 e2 ⊢
  simp_arith [en, e1, e2, ne, ls, neW_int, ↓r_par3, t1, t2, t3, tgL, h3, sn, w_strOf v (keyOk_log kv.ok), w_strOf h (keyOk_log kh), w_strOf p (keyOk_log kp), w.1, w.2.1, w.2.2.1, w.2.2.2]
theorem law_turn (ns : List Int) (k : Nat) : turn (tgN 1) b_law_1 [1, 2, 3, 4, 5, 7, 10, 11, 13, 14, 15, 8, 9] (W.int (0 + (k : Int))) [.scr (ns.map W.int), .dead, .dead, .dead, .dead, .dead, .dead, .dead, .dead, .dead, .dead, .dead, .dead, .dead, .dead, .dead] = .ok .nx [.scr (ns.map W.int), .dead, .dead, .dead, .dead, .dead, .dead, .dead, .dead, .dead, .dead, .dead, .dead, .dead, .dead, .dead] := by
  have lg := line_ge
  have ec := e_cell ns k
  obtain ⟨K, hK⟩ : ∃ K : Int, (k : Int) = K := ⟨_, rfl⟩
  have e0 : (0 : Int) + (k : Int) = K := by omega
  rw [e0]
  rw [hK] at ec
  obtain ⟨d, _, hd⟩ := e_deck (cellAt ns k) 160 (by omega)
  obtain ⟨rs, d1, ok, _, hr⟩ := e_rows d 10 (by omega)
  obtain ⟨d2, ws, rs2, ok2, f1, f2, ho⟩ := e_otherwise d1 rs ok
  rw [show ((160 : Nat) : Int) = 160 from rfl] at hd
  rw [show ((10 : Nat) : Int) = 10 from rfl] at hr
  have fz : (W.nst ws).fzD = .lst false (rs2.map encR) := by rw [W.fzD, fzDs_map, f1]
  have fo : (W.nst ws).fzOk = true := by rw [W.fzOk]; exact fzOks_all _ f2
  have et := fun a5 => e_texts rs rs2 ok.ok ok2 (.scr (ns.map W.int)) (.int K) (dk d2) (encRs rs) a5 .dead .dead .dead .dead .dead .dead .dead .dead .dead
  have lr := law_rows rs rs2 ok.ok ok2 (.scr (ns.map W.int)) (.int K) (dk d2) (encRs rs)
  obtain ⟨d3, b10, b11, b13, b14, b15, ln⟩ := law_names rs ok.ok d2 (.scr (ns.map W.int)) (.int K) (.lst false [encRs rs, encRs rs2]) (.lst false [.str (rowsS rs), .str (rowsS rs2)])
  have seq3 : ∀ (a b c : Sm Fl), sSeq a (sSeq b c) = sSeq (sSeq a b) c := by
    intro a b c
    funext env
    rw [r_seq, r_seq, r_seq]
    cases a env with
    | ok f e =>
      cases f <;> dsimp only
      rw [r_seq]
    | _ => rfl
  have unf : b_law_1 = sSeq (sSet 2 true (mCallP f__law_deck (Sm.bind (mCons (mCallP f__law_cell_at (Sm.bind (mCons (mVar 0) (mCons (mVar 1) (mNil))) fun ws => if ws.length = 2 then Sm.ret ws else fun _ => .bad)) (mCons (mC (.int 160)) (mNil))) fun ws => if ws.length = 2 then Sm.ret ws else fun _ => .bad))) (sSeq (sSet 3 true (mFz (mCall f__law_rows 2 (Sm.bind (mVar 2) fun _ => rIo 2 (rVal (mC (.int 10)) (rNil)))))) (sSeq (sSet 4 true (mArgs (lstW false) (mCons (mVar 3) (mCons (mFzD (mCall f__law_otherwise 2 (Sm.bind (mVar 2) fun _ => rIo 2 (rVal (mVar 3) (rNil))))) (mNil))))) (sSeq (sSet 5 true (mFz (c_law_1))) (sSeq rowsM namesM)))) := by
    unfold rowsM
    rw [← seq3]
    rfl
  have h2 : 2 ≤ sizeLine := by omega
  rw [unf]
  unfold turn
  unfold encRs at ho et lr ln
  simp_arith [ec, hd, hr, ho, fz, fo, frzR, pick_R, h2, et, ↓lr, ↓ln]
theorem law_true (ns : List Int) (hl : ns.length ≤ 63) (hb : ∀ z ∈ ns, Builtin.Int.intBits z ≤ 1048576) : ∃ ws, f_law [.scr (ns.map W.int)] = .ok (.bl true) ws := by
  unfold f_law b_law
  obtain ⟨m, hm⟩ : ∃ m : Int, m = (if (if (8 : Int) < (ns.length : Int) then (8 : Int) else (ns.length : Int)) > 1 then (if (8 : Int) < (ns.length : Int) then (8 : Int) else (ns.length : Int)) else 1) := ⟨_, rfl⟩
  have hm2 : 1 ≤ m ∧ m ≤ 8 := by
    rw [hm]
    split <;> split <;> omega
  have hr : rngOk m := rngOk_of (by omega) (by omega)
  have h := mFor_all (f := tgN 1) (body := b_law_1) (kill := [1, 2, 3, 4, 5, 7, 10, 11, 13, 14, 15, 8, 9]) (fun i : Nat => W.int (0 + (i : Int))) (xs := List.range m.toNat) fun k _ => law_turn ns k
  refine ⟨[.dead], ?_⟩
  simp_arith [← hm, hr, rngL_nat, h]
end Ev

namespace Ev
open PySem PySem.Spec L2
theorem cf_of {K : PySem.W.Frag} {C0 C1 : Addr} (q0 : CF1 K C0 "LotError") (q1 : CF1 K C1 "NoText") (s0_0 : PySem.W.subIn K (.ref C0) (.ref C0) = some true) (s0_1 : PySem.W.subIn K (.ref C0) (.ref C1) = some false) (s1_0 : PySem.W.subIn K (.ref C1) (.ref C0) = some true) (s1_1 : PySem.W.subIn K (.ref C1) (.ref C1) = some true) : ∃ A, CF K ["LotError", "NoText"] A :=
  ⟨(fun c => [C0, C1].getD c 0), ⟨(fun c x h => match c, h with
    | 0, h => by cases h; exact q0
    | 1, h => by cases h; exact q1
    | n + 2, h => (nomatch h)), (fun c d hc hd => match c, d, hc, hd with
    | 0, 0, _, _ => s0_0
    | 0, 1, _, _ => s0_1
    | 1, 0, _, _ => s1_0
    | 1, 1, _, _ => s1_1
    | n + 2, _, h, _ => absurd h (by show ¬ n + 2 < 2; omega)
    | 0, n + 2, _, h => absurd h (by show ¬ n + 2 < 2; omega)
    | 1, n + 2, _, h => absurd h (by show ¬ n + 2 < 2; omega))⟩⟩
theorem all_mk {P : Program} {w : World} {K : PySem.W.Frag} {h : Heap} {mg : Str → Option Value} {fa : Addr} (X : K.In h) (G : h.Ns mainGlobals mg) (hfa : mg "law" = some (.ref fa)) (D_is_whole_number : DF K "is_whole_number" ["thing"] s_is_whole_number) (D_is_tag : DF K "is_tag" ["thing"] s_is_tag) (D_is_keyed : DF K "is_keyed" ["thing"] s_is_keyed) (D_is_row : DF K "is_row" ["thing"] s_is_row) (D_are_rows : DF K "are_rows" ["thing"] s_are_rows) (D_names_plainly : DF K "names_plainly" ["rows"] s_names_plainly) (D_show_thing : DF K "show_thing" ["thing"] s_show_thing) (D_show_row : DF K "show_row" ["row"] s_show_row) (D_show_rows : DF K "show_rows" ["rows"] s_show_rows) (D_show_name : DF K "show_name" ["name"] s_show_name) (D_key_from : DF K "key_from" ["word"] s_key_from) (D_thing_from : DF K "thing_from" ["word"] s_thing_from) (D_row_from : DF K "row_from" ["text"] s_row_from) (D_read_rows : DF K "read_rows" ["text"] s_read_rows) (D__law_cell_at : DF K "_law_cell_at" ["script", "k"] s__law_cell_at) (D__law_numbers : DF K "_law_numbers" ["cell", "many"] s__law_numbers) (D__law_deck : DF K "_law_deck" ["cell", "many"] s__law_deck) (D__law_take : DF K "_law_take" ["deck", "many"] s__law_take) (D__law_key : DF K "_law_key" ["deck"] s__law_key) (D__law_tag : DF K "_law_tag" ["deck"] s__law_tag) (D__law_rows : DF K "_law_rows" ["deck", "most"] s__law_rows) (D__law_otherwise : DF K "_law_otherwise" ["deck", "rows"] s__law_otherwise) (D_law : DF K "law" ["script"] s_law) (n_bool : PySem.W.nsIn K mainGlobals "bool" = some none) (n_int : PySem.W.nsIn K mainGlobals "int" = some none) (n_isinstance : PySem.W.nsIn K mainGlobals "isinstance" = some none) (n_len : PySem.W.nsIn K mainGlobals "len" = some none) (n_str : PySem.W.nsIn K mainGlobals "str" = some none) (n_tuple : PySem.W.nsIn K mainGlobals "tuple" = some none) (n_list : PySem.W.nsIn K mainGlobals "list" = some none) (n_enumerate : PySem.W.nsIn K mainGlobals "enumerate" = some none) (n_range : PySem.W.nsIn K mainGlobals "range" = some none) (n_sorted : PySem.W.nsIn K mainGlobals "sorted" = some none) (n_max : PySem.W.nsIn K mainGlobals "max" = some none) (n_min : PySem.W.nsIn K mainGlobals "min" = some none) (n_set : PySem.W.nsIn K mainGlobals "set" = some none) (n_zip : PySem.W.nsIn K mainGlobals "zip" = some none) {t_LETTERS : Tok} (n_LETTERS : PySem.W.nsIn K mainGlobals "LETTERS" = some (some (.str "abcdefghijklmnopqrstuvwxyz" t_LETTERS))) {t_LONGEST_TAG : Tok} (n_LONGEST_TAG : PySem.W.nsIn K mainGlobals "LONGEST_TAG" = some (some (.int 8 t_LONGEST_TAG))) {t_MOST_HANDS : Tok} (n_MOST_HANDS : PySem.W.nsIn K mainGlobals "MOST_HANDS" = some (some (.int 6 t_MOST_HANDS))) {t_FIGURES : Tok} (n_FIGURES : PySem.W.nsIn K mainGlobals "FIGURES" = some (some (.str "0123456789" t_FIGURES))) {t_MOST_FIGURES : Tok} (n_MOST_FIGURES : PySem.W.nsIn K mainGlobals "MOST_FIGURES" = some (some (.int 30 t_MOST_FIGURES))) (hA : ∃ A, CF K ["LotError", "NoText"] A) :
    ∃ fd : FuncData, (∀ (s : Shared) (u : Value), BindsTo s fd ⟨[u], []⟩ [("script", u)]) ∧ ∃ CA : Nat → Addr, ∀ base : Heap, FnOk P w K mg base (L2.CX P w) 6 fa fd ["script"] (spOf ⟨K, CA⟩ 1 f_law) := by
  obtain ⟨f_is_whole_number_, fd_is_whole_number_, a_is_whole_number, F_is_whole_number_, b_is_whole_number_⟩ := D_is_whole_number
  obtain ⟨f_is_tag_, fd_is_tag_, a_is_tag, F_is_tag_, b_is_tag_⟩ := D_is_tag
  obtain ⟨f_is_keyed_, fd_is_keyed_, a_is_keyed, F_is_keyed_, b_is_keyed_⟩ := D_is_keyed
  obtain ⟨f_is_row_, fd_is_row_, a_is_row, F_is_row_, b_is_row_⟩ := D_is_row
  obtain ⟨f_are_rows_, fd_are_rows_, a_are_rows, F_are_rows_, b_are_rows_⟩ := D_are_rows
  obtain ⟨f_names_plainly_, fd_names_plainly_, a_names_plainly, F_names_plainly_, b_names_plainly_⟩ := D_names_plainly
  obtain ⟨f_show_thing_, fd_show_thing_, a_show_thing, F_show_thing_, b_show_thing_⟩ := D_show_thing
  obtain ⟨f_show_row_, fd_show_row_, a_show_row, F_show_row_, b_show_row_⟩ := D_show_row
  obtain ⟨f_show_rows_, fd_show_rows_, a_show_rows, F_show_rows_, b_show_rows_⟩ := D_show_rows
  obtain ⟨f_show_name_, fd_show_name_, a_show_name, F_show_name_, b_show_name_⟩ := D_show_name
  obtain ⟨f_key_from_, fd_key_from_, a_key_from, F_key_from_, b_key_from_⟩ := D_key_from
  obtain ⟨f_thing_from_, fd_thing_from_, a_thing_from, F_thing_from_, b_thing_from_⟩ := D_thing_from
  obtain ⟨f_row_from_, fd_row_from_, a_row_from, F_row_from_, b_row_from_⟩ := D_row_from
  obtain ⟨f_read_rows_, fd_read_rows_, a_read_rows, F_read_rows_, b_read_rows_⟩ := D_read_rows
  obtain ⟨f__law_cell_at_, fd__law_cell_at_, a__law_cell_at, F__law_cell_at_, b__law_cell_at_⟩ := D__law_cell_at
  obtain ⟨f__law_numbers_, fd__law_numbers_, a__law_numbers, F__law_numbers_, b__law_numbers_⟩ := D__law_numbers
  obtain ⟨f__law_deck_, fd__law_deck_, a__law_deck, F__law_deck_, b__law_deck_⟩ := D__law_deck
  obtain ⟨f__law_take_, fd__law_take_, a__law_take, F__law_take_, b__law_take_⟩ := D__law_take
  obtain ⟨f__law_key_, fd__law_key_, a__law_key, F__law_key_, b__law_key_⟩ := D__law_key
  obtain ⟨f__law_tag_, fd__law_tag_, a__law_tag, F__law_tag_, b__law_tag_⟩ := D__law_tag
  obtain ⟨f__law_rows_, fd__law_rows_, a__law_rows, F__law_rows_, b__law_rows_⟩ := D__law_rows
  obtain ⟨f__law_otherwise_, fd__law_otherwise_, a__law_otherwise, F__law_otherwise_, b__law_otherwise_⟩ := D__law_otherwise
  obtain ⟨f_law_, fd_law_, a_law, F_law_, b_law_⟩ := D_law
  obtain ⟨A, hA⟩ := hA
  have e := hfa.symm.trans (PySem.W.mg_of X G a_law)
  cases e
  refine ⟨fd_law_, fun s u => b_law_ s [u] rfl, A, fun base => ?_⟩
  have W_is_whole_number := w_is_whole_number (P := P) (w := w) (mg := mg) (base := base) (CA := A) F_is_whole_number_ (PySem.W.mg_of X G a_is_whole_number) (binds_of b_is_whole_number_) (PySem.W.mg_none_of X G n_bool) (PySem.W.mg_none_of X G n_int) (PySem.W.mg_none_of X G n_isinstance)
  have W_is_tag := w_is_tag (P := P) (w := w) (mg := mg) (base := base) (CA := A) F_is_tag_ (PySem.W.mg_of X G a_is_tag) (binds_of b_is_tag_) (PySem.W.mg_none_of X G n_isinstance) (PySem.W.mg_none_of X G n_len) (PySem.W.mg_none_of X G n_str) (PySem.W.mg_of X G n_LETTERS) (PySem.W.mg_of X G n_LONGEST_TAG)
  have W_is_keyed := w_is_keyed (P := P) (w := w) (mg := mg) (base := base) (CA := A) F_is_keyed_ (PySem.W.mg_of X G a_is_keyed) (binds_of b_is_keyed_) (PySem.W.mg_none_of X G n_isinstance) (PySem.W.mg_none_of X G n_len) (PySem.W.mg_none_of X G n_tuple) W_is_whole_number W_is_tag
  have W_is_row := w_is_row (P := P) (w := w) (mg := mg) (base := base) (CA := A) F_is_row_ (PySem.W.mg_of X G a_is_row) (binds_of b_is_row_) (PySem.W.mg_none_of X G n_isinstance) (PySem.W.mg_none_of X G n_list) W_is_keyed
  have W_are_rows := w_are_rows (P := P) (w := w) (mg := mg) (base := base) (CA := A) F_are_rows_ (PySem.W.mg_of X G a_are_rows) (binds_of b_are_rows_) (PySem.W.mg_none_of X G n_isinstance) (PySem.W.mg_none_of X G n_len) (PySem.W.mg_none_of X G n_list) (PySem.W.mg_of X G n_MOST_HANDS) W_is_row
  have W_names_plainly := w_names_plainly (P := P) (w := w) (mg := mg) (base := base) (CA := A) F_names_plainly_ (PySem.W.mg_of X G a_names_plainly) (binds_of b_names_plainly_) (PySem.W.mg_none_of X G n_enumerate) (PySem.W.mg_none_of X G n_len) (PySem.W.mg_none_of X G n_range) (PySem.W.mg_none_of X G n_sorted)
  have W_show_thing := w_show_thing (P := P) (w := w) (mg := mg) (base := base) (CA := A) F_show_thing_ (PySem.W.mg_of X G a_show_thing) (binds_of b_show_thing_) (PySem.W.mg_none_of X G n_str)
  have W_show_row := w_show_row (P := P) (w := w) (mg := mg) (base := base) (CA := A) F_show_row_ (PySem.W.mg_of X G a_show_row) (binds_of b_show_row_) W_show_thing
  have W_show_rows := w_show_rows (P := P) (w := w) (mg := mg) (base := base) (CA := A) F_show_rows_ (PySem.W.mg_of X G a_show_rows) (binds_of b_show_rows_) W_show_row
  have W_show_name := w_show_name (P := P) (w := w) (mg := mg) (base := base) (CA := A) F_show_name_ (PySem.W.mg_of X G a_show_name) (binds_of b_show_name_) (PySem.W.mg_none_of X G n_str)
  have W_key_from := w_key_from (P := P) (w := w) (mg := mg) (base := base) (CA := A) F_key_from_ (PySem.W.mg_of X G a_key_from) (binds_of b_key_from_) (PySem.W.mg_none_of X G n_int) (PySem.W.mg_none_of X G n_len) (PySem.W.mg_of X G n_FIGURES) (PySem.W.mg_of X G n_MOST_FIGURES) (hA.clsT X G (c := 1) rfl)
  have W_thing_from := w_thing_from (P := P) (w := w) (mg := mg) (base := base) (CA := A) F_thing_from_ (PySem.W.mg_of X G a_thing_from) (binds_of b_thing_from_) W_key_from
  have W_row_from := w_row_from (P := P) (w := w) (mg := mg) (base := base) (CA := A) F_row_from_ (PySem.W.mg_of X G a_row_from) (binds_of b_row_from_) W_thing_from
  have W_read_rows := w_read_rows (P := P) (w := w) (mg := mg) (base := base) (CA := A) F_read_rows_ (PySem.W.mg_of X G a_read_rows) (binds_of b_read_rows_) (PySem.W.mg_none_of X G n_isinstance) (PySem.W.mg_none_of X G n_str) (hA.clsT X G (c := 1) rfl) W_are_rows W_row_from
  have W__law_cell_at := w__law_cell_at (P := P) (w := w) (mg := mg) (base := base) (CA := A) F__law_cell_at_ (PySem.W.mg_of X G a__law_cell_at) (binds_of b__law_cell_at_) (PySem.W.mg_none_of X G n_len)
  have W__law_numbers := w__law_numbers (P := P) (w := w) (mg := mg) (base := base) (CA := A) F__law_numbers_ (PySem.W.mg_of X G a__law_numbers) (binds_of b__law_numbers_) (PySem.W.mg_none_of X G n_range)
  have W__law_deck := w__law_deck (P := P) (w := w) (mg := mg) (base := base) (CA := A) F__law_deck_ (PySem.W.mg_of X G a__law_deck) (binds_of b__law_deck_) W__law_numbers
  have W__law_take := w__law_take (P := P) (w := w) (mg := mg) (base := base) (CA := A) F__law_take_ (PySem.W.mg_of X G a__law_take) (binds_of b__law_take_) 
  have W__law_key := w__law_key (P := P) (w := w) (mg := mg) (base := base) (CA := A) F__law_key_ (PySem.W.mg_of X G a__law_key) (binds_of b__law_key_) W__law_take
  have W__law_tag := w__law_tag (P := P) (w := w) (mg := mg) (base := base) (CA := A) F__law_tag_ (PySem.W.mg_of X G a__law_tag) (binds_of b__law_tag_) (PySem.W.mg_none_of X G n_range) W__law_take
  have W__law_rows := w__law_rows (P := P) (w := w) (mg := mg) (base := base) (CA := A) F__law_rows_ (PySem.W.mg_of X G a__law_rows) (binds_of b__law_rows_) (PySem.W.mg_none_of X G n_range) (PySem.W.mg_none_of X G n_sorted) W__law_take W__law_key W__law_tag
  have W__law_otherwise := w__law_otherwise (P := P) (w := w) (mg := mg) (base := base) (CA := A) F__law_otherwise_ (PySem.W.mg_of X G a__law_otherwise) (binds_of b__law_otherwise_) (PySem.W.mg_none_of X G n_len) (PySem.W.mg_none_of X G n_list) W__law_take
  exact o_law F_law_ (PySem.W.mg_none_of X G n_len) (PySem.W.mg_none_of X G n_max) (PySem.W.mg_none_of X G n_min) (PySem.W.mg_none_of X G n_range) (PySem.W.mg_none_of X G n_set) (PySem.W.mg_none_of X G n_str) (PySem.W.mg_none_of X G n_zip) W_names_plainly W_show_rows W_show_name W_read_rows W__law_cell_at W__law_deck W__law_take W__law_key W__law_rows W__law_otherwise
end Ev
open PySem PySem.W PyProof.Rows
set_option maxRecDepth 100000 in
set_option maxHeartbeats 0 in
theorem PySem.Challenge.cw_evenlots_k46_whole_one_writing_each_holds : PySem.Challenge.rw_evenlots_k46_whole_one_writing_each.Holds := by
  w_on; o_law; k_head; (case hw => w_witness2)
  k_fill
  refine Ev.walk_top (l := PySem.Challenge.rw_evenlots_k46_whole_one_writing_each) (k := 6) Ev.f_law rfl rfl ⟨rfl, by decide, by decide⟩ (fun w h Y => PySem.W.kIn_of Y) ?F Ev.law_true
  case F =>
    intro w mg fa h KX G hmg
    refine' Ev.all_mk KX G hmg ?d_is_whole_number ?d_is_tag ?d_is_keyed ?d_is_row ?d_are_rows ?d_names_plainly ?d_show_thing ?d_show_row ?d_show_rows ?d_show_name ?d_key_from ?d_thing_from ?d_row_from ?d_read_rows ?d__law_cell_at ?d__law_numbers ?d__law_deck ?d__law_take ?d__law_key ?d__law_tag ?d__law_rows ?d__law_otherwise ?d_law ?n_bool ?n_int ?n_isinstance ?n_len ?n_str ?n_tuple ?n_list ?n_enumerate ?n_range ?n_sorted ?n_max ?n_min ?n_set ?n_zip ?n_LETTERS ?n_LONGEST_TAG ?n_MOST_HANDS ?n_FIGURES ?n_MOST_FIGURES ?hA
    case d_is_whole_number =>
      refine' Ev.DF.mk (fun _ _ _ _ _ _ us hl => match us, hl with | [_], _ => rfl) ?a_is_whole_number ?l_is_whole_number ?c_is_whole_number ?k_is_whole_number
      (case a_is_whole_number => k_is); (case l_is_whole_number => k_is); (case c_is_whole_number => k_is); (case k_is_whole_number => k_is)
    case d_is_tag =>
      refine' Ev.DF.mk (fun _ _ _ _ _ _ us hl => match us, hl with | [_], _ => rfl) ?a_is_tag ?l_is_tag ?c_is_tag ?k_is_tag
      (case a_is_tag => k_is); (case l_is_tag => k_is); (case c_is_tag => k_is); (case k_is_tag => k_is)
    case d_is_keyed =>
      refine' Ev.DF.mk (fun _ _ _ _ _ _ us hl => match us, hl with | [_], _ => rfl) ?a_is_keyed ?l_is_keyed ?c_is_keyed ?k_is_keyed
      (case a_is_keyed => k_is); (case l_is_keyed => k_is); (case c_is_keyed => k_is); (case k_is_keyed => k_is)
    case d_is_row =>
      refine' Ev.DF.mk (fun _ _ _ _ _ _ us hl => match us, hl with | [_], _ => rfl) ?a_is_row ?l_is_row ?c_is_row ?k_is_row
      (case a_is_row => k_is); (case l_is_row => k_is); (case c_is_row => k_is); (case k_is_row => k_is)
    case d_are_rows =>
      refine' Ev.DF.mk (fun _ _ _ _ _ _ us hl => match us, hl with | [_], _ => rfl) ?a_are_rows ?l_are_rows ?c_are_rows ?k_are_rows
      (case a_are_rows => k_is); (case l_are_rows => k_is); (case c_are_rows => k_is); (case k_are_rows => k_is)
    case d_names_plainly =>
      refine' Ev.DF.mk (fun _ _ _ _ _ _ us hl => match us, hl with | [_], _ => rfl) ?a_names_plainly ?l_names_plainly ?c_names_plainly ?k_names_plainly
      (case a_names_plainly => k_is); (case l_names_plainly => k_is); (case c_names_plainly => k_is); (case k_names_plainly => k_is)
    case d_show_thing =>
      refine' Ev.DF.mk (fun _ _ _ _ _ _ us hl => match us, hl with | [_], _ => rfl) ?a_show_thing ?l_show_thing ?c_show_thing ?k_show_thing
      (case a_show_thing => k_is); (case l_show_thing => k_is); (case c_show_thing => k_is); (case k_show_thing => k_is)
    case d_show_row =>
      refine' Ev.DF.mk (fun _ _ _ _ _ _ us hl => match us, hl with | [_], _ => rfl) ?a_show_row ?l_show_row ?c_show_row ?k_show_row
      (case a_show_row => k_is); (case l_show_row => k_is); (case c_show_row => k_is); (case k_show_row => k_is)
    case d_show_rows =>
      refine' Ev.DF.mk (fun _ _ _ _ _ _ us hl => match us, hl with | [_], _ => rfl) ?a_show_rows ?l_show_rows ?c_show_rows ?k_show_rows
      (case a_show_rows => k_is); (case l_show_rows => k_is); (case c_show_rows => k_is); (case k_show_rows => k_is)
    case d_show_name =>
      refine' Ev.DF.mk (fun _ _ _ _ _ _ us hl => match us, hl with | [_], _ => rfl) ?a_show_name ?l_show_name ?c_show_name ?k_show_name
      (case a_show_name => k_is); (case l_show_name => k_is); (case c_show_name => k_is); (case k_show_name => k_is)
    case d_key_from =>
      refine' Ev.DF.mk (fun _ _ _ _ _ _ us hl => match us, hl with | [_], _ => rfl) ?a_key_from ?l_key_from ?c_key_from ?k_key_from
      (case a_key_from => k_is); (case l_key_from => k_is); (case c_key_from => k_is); (case k_key_from => k_is)
    case d_thing_from =>
      refine' Ev.DF.mk (fun _ _ _ _ _ _ us hl => match us, hl with | [_], _ => rfl) ?a_thing_from ?l_thing_from ?c_thing_from ?k_thing_from
      (case a_thing_from => k_is); (case l_thing_from => k_is); (case c_thing_from => k_is); (case k_thing_from => k_is)
    case d_row_from =>
      refine' Ev.DF.mk (fun _ _ _ _ _ _ us hl => match us, hl with | [_], _ => rfl) ?a_row_from ?l_row_from ?c_row_from ?k_row_from
      (case a_row_from => k_is); (case l_row_from => k_is); (case c_row_from => k_is); (case k_row_from => k_is)
    case d_read_rows =>
      refine' Ev.DF.mk (fun _ _ _ _ _ _ us hl => match us, hl with | [_], _ => rfl) ?a_read_rows ?l_read_rows ?c_read_rows ?k_read_rows
      (case a_read_rows => k_is); (case l_read_rows => k_is); (case c_read_rows => k_is); (case k_read_rows => k_is)
    case d__law_cell_at =>
      refine' Ev.DF.mk (fun _ _ _ _ _ _ us hl => match us, hl with | [_, _], _ => rfl) ?a__law_cell_at ?l__law_cell_at ?c__law_cell_at ?k__law_cell_at
      (case a__law_cell_at => k_is); (case l__law_cell_at => k_is); (case c__law_cell_at => k_is); (case k__law_cell_at => k_is)
    case d__law_numbers =>
      refine' Ev.DF.mk (fun _ _ _ _ _ _ us hl => match us, hl with | [_, _], _ => rfl) ?a__law_numbers ?l__law_numbers ?c__law_numbers ?k__law_numbers
      (case a__law_numbers => k_is); (case l__law_numbers => k_is); (case c__law_numbers => k_is); (case k__law_numbers => k_is)
    case d__law_deck =>
      refine' Ev.DF.mk (fun _ _ _ _ _ _ us hl => match us, hl with | [_, _], _ => rfl) ?a__law_deck ?l__law_deck ?c__law_deck ?k__law_deck
      (case a__law_deck => k_is); (case l__law_deck => k_is); (case c__law_deck => k_is); (case k__law_deck => k_is)
    case d__law_take =>
      refine' Ev.DF.mk (fun _ _ _ _ _ _ us hl => match us, hl with | [_, _], _ => rfl) ?a__law_take ?l__law_take ?c__law_take ?k__law_take
      (case a__law_take => k_is); (case l__law_take => k_is); (case c__law_take => k_is); (case k__law_take => k_is)
    case d__law_key =>
      refine' Ev.DF.mk (fun _ _ _ _ _ _ us hl => match us, hl with | [_], _ => rfl) ?a__law_key ?l__law_key ?c__law_key ?k__law_key
      (case a__law_key => k_is); (case l__law_key => k_is); (case c__law_key => k_is); (case k__law_key => k_is)
    case d__law_tag =>
      refine' Ev.DF.mk (fun _ _ _ _ _ _ us hl => match us, hl with | [_], _ => rfl) ?a__law_tag ?l__law_tag ?c__law_tag ?k__law_tag
      (case a__law_tag => k_is); (case l__law_tag => k_is); (case c__law_tag => k_is); (case k__law_tag => k_is)
    case d__law_rows =>
      refine' Ev.DF.mk (fun _ _ _ _ _ _ us hl => match us, hl with | [_, _], _ => rfl) ?a__law_rows ?l__law_rows ?c__law_rows ?k__law_rows
      (case a__law_rows => k_is); (case l__law_rows => k_is); (case c__law_rows => k_is); (case k__law_rows => k_is)
    case d__law_otherwise =>
      refine' Ev.DF.mk (fun _ _ _ _ _ _ us hl => match us, hl with | [_, _], _ => rfl) ?a__law_otherwise ?l__law_otherwise ?c__law_otherwise ?k__law_otherwise
      (case a__law_otherwise => k_is); (case l__law_otherwise => k_is); (case c__law_otherwise => k_is); (case k__law_otherwise => k_is)
    case d_law =>
      refine' Ev.DF.mk (fun _ _ _ _ _ _ us hl => match us, hl with | [_], _ => rfl) ?a_law ?l_law ?c_law ?k_law
      (case a_law => k_is); (case l_law => k_is); (case c_law => k_is); (case k_law => k_is)
    (case n_bool => k_is)
    (case n_int => k_is)
    (case n_isinstance => k_is)
    (case n_len => k_is)
    (case n_str => k_is)
    (case n_tuple => k_is)
    (case n_list => k_is)
    (case n_enumerate => k_is)
    (case n_range => k_is)
    (case n_sorted => k_is)
    (case n_max => k_is)
    (case n_min => k_is)
    (case n_set => k_is)
    (case n_zip => k_is)
    (case n_LETTERS => k_is)
    (case n_LONGEST_TAG => k_is)
    (case n_MOST_HANDS => k_is)
    (case n_FIGURES => k_is)
    (case n_MOST_FIGURES => k_is)
    case hA =>
      refine' Ev.cf_of ?q0 ?q1 ?s0_0 ?s0_1 ?s1_0 ?s1_1
      case q0 =>
        refine' ⟨?ns0, ?x0, ?k0, ?b0, ?t0, ?v0, ⟨?e01, ?e02, ?e03, ?e04, ?e05, ?e06, ?e07, ?e08⟩⟩
        (case ns0 => k_is); (case x0 => k_exc); (case k0 => k_is); (case b0 => k_is); (case t0 => k_is); (case v0 => k_is)
        all_goals k_is
      case q1 =>
        refine' ⟨?ns1, ?x1, ?k1, ?b1, ?t1, ?v1, ⟨?e11, ?e12, ?e13, ?e14, ?e15, ?e16, ?e17, ?e18⟩⟩
        (case ns1 => k_is); (case x1 => k_exc); (case k1 => k_is); (case b1 => k_is); (case t1 => k_is); (case v1 => k_is)
        all_goals k_is
      all_goals first | rfl | k_is
