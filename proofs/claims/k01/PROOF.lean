import PyProof.Rows.All
import Wide.All
import OpenK.AllK
import Wide.FinOn
import HandS.ForMost
import HandS.Exc
import HandS.ExcOwn
import HandS.ExcCtx
import HandS.TryMany
import HandS.Hot
import HandS.HotCalls
import HandS.ExcInit
import HandS.ExcInitHot
import HandS.ExcIs
import HandS.ExcField
import HandS.EndTab
import HandS.ClsMeth
import HandS.WordsExc
import HandS.Defaults
import HandS.CallSlots
import HandS.Lambda
import HandS.TupAny
import HandS.Deep
import HandS.Wide
import HandS.IsInst
import HandS.Strs
import HandS.SortKw
import HandS.DictComp
import HandS.More
import HandS.SetBool
import HandS.SetKeys
import HandS.HeadHook1
import HandS.HeadHook2
import HandS.Head0
import HandS.Head1
import HandS.Head2
import HandS.HeadEnd
import HandS.Ends
import KE.DataCmp
import HandS.Style
import HandS.Iter
import KE.KExcIs
import KE.KNestM
import HandS.HeadHook4
import HandS.TupLe
import HandS.MakeKwOnly
import HandS.OwnEq
import PyProof.InstNe
import HandS.ReplaceLit
import KE.GoesMore
import HandS.Base
import HandS.ReplaceList
import PySem.Challenge.RW_wordkeepers_k01_whole_letters_read
set_option Elab.async false
set_option linter.all false
set_option maxRecDepth 100000
set_option maxHeartbeats 2000000
namespace VD
open PySem PySem.Spec PyProof.Rows L2
abbrev St := L2.St

/-! ### data, what is owned -/
inductive D where
  | non | bl (b : Bool) | int (i : Int) | str (s : Str)
  | tup (xs : List D) | lst (xs : List D) | dct (kvs : List (Key × D)) | obj (c : Str) (fs : List (Str × D))
  | scr (ns : List Int)
  | exc
  deriving Inhabited
inductive W where
  | fr (d : D)
  | lst (ws : List W) | tup (ws : List W) | dct (kvs : List (Key × W)) | obj (c : Str) (fs : List (Str × W))
  deriving Inhabited
/-- tables of code objects; the exception that is handled, if the frame may look at it -/
structure Tx where
  l : List (Addr × Str)
  ea : Option Addr
  ed : Option Addr
abbrev tx0 : Tx := ⟨[], none, none⟩
structure Gx where
  K : PySem.W.Frag
  mg : Str → Option Value
  T : Tx

mutual
inductive Rep (G : Gx) (B : Hp) : D → V → Prop
  | non : Rep G B .non .non
  | bl {b : Bool} : Rep G B (.bl b) (.bl b)
  | int {i : Int} : Rep G B (.int i) (.int i)
  | str {s : Str} : Rep G B (.str s) (.str s)
  | tup {a : Addr} {xs : List D} {vs : List V} : SqT G.K B a vs → RepL G B xs vs → Rep G B (.tup xs) (.ref a)
  | lst {a : Addr} {xs : List D} {vs : List V} : B a = some (.lst vs) → RepL G B xs vs → Rep G B (.lst xs) (.ref a)
  | scr {a : Addr} {ns : List Int} : SqL G.K B a (ns.map V.int) → Rep G B (.scr ns) (.ref a)
  | exc {a : Addr} : G.T.ea = some a → (∀ dx, G.T.ed = some dx → ∃ fs, B dx = some (.xd fs)) → Rep G B .exc (.ref a)
  | dct {a : Addr} {kvs : List (Key × D)} {vs : List (Key × V)} : B a = some (.dK vs) → RepK G B kvs vs → Rep G B (.dct kvs) (.ref a)
  | obj {a C dx : Addr} {c : Str} {fs : List (Str × D)} {vs : List (Str × V)} : G.mg c = some (.ref C) → B a = some (.ins C dx vs) → RepF G B fs vs → Rep G B (.obj c fs) (.ref a)
inductive RepL (G : Gx) (B : Hp) : List D → List V → Prop
  | nil : RepL G B [] []
  | cons {d : D} {v : V} {ds : List D} {vs : List V} : Rep G B d v → RepL G B ds vs → RepL G B (d :: ds) (v :: vs)
inductive RepK (G : Gx) (B : Hp) : List (Key × D) → List (Key × V) → Prop
  | nil : RepK G B [] []
  | cons {k : Key} {d : D} {v : V} {ds : List (Key × D)} {vs : List (Key × V)} : Rep G B d v → RepK G B ds vs → RepK G B ((k, d) :: ds) ((k, v) :: vs)
inductive RepF (G : Gx) (B : Hp) : List (Str × D) → List (Str × V) → Prop
  | nil : RepF G B [] []
  | cons {k : Str} {d : D} {v : V} {ds : List (Str × D)} {vs : List (Str × V)} : Rep G B d v → RepF G B ds vs → RepF G B ((k, d) :: ds) ((k, v) :: vs)
end
mutual
inductive Own (G : Gx) (B H : Hp) : W → V → List Addr → Prop
  | fr {d : D} {v : V} : Rep G B d v → Own G B H (.fr d) v []
  | lst {a : Addr} {ws : List W} {vs : List V} {F : List Addr} : H a = some (.lst vs) → OwnL G B H ws vs F → Own G B H (.lst ws) (.ref a) (a :: F)
  | tup {a : Addr} {ws : List W} {vs : List V} {F : List Addr} : H a = some (.tup vs) → OwnL G B H ws vs F → Own G B H (.tup ws) (.ref a) (a :: F)
  | dct {a : Addr} {ws : List (Key × W)} {vs : List (Key × V)} {F : List Addr} : H a = some (.dK vs) → OwnK G B H ws vs F → Own G B H (.dct ws) (.ref a) (a :: F)
  | obj {a C dx : Addr} {c : Str} {ws : List (Str × W)} {vs : List (Str × V)} {F : List Addr} : G.mg c = some (.ref C) → H a = some (.ins C dx vs) → OwnF G B H ws vs F → Own G B H (.obj c ws) (.ref a) (a :: F)
inductive OwnL (G : Gx) (B H : Hp) : List W → List V → List Addr → Prop
  | nil : OwnL G B H [] [] []
  | cons {w : W} {v : V} {ws : List W} {vs : List V} {F F' : List Addr} : Own G B H w v F → OwnL G B H ws vs F' → OwnL G B H (w :: ws) (v :: vs) (F ++ F')
inductive OwnK (G : Gx) (B H : Hp) : List (Key × W) → List (Key × V) → List Addr → Prop
  | nil : OwnK G B H [] [] []
  | cons {k : Key} {w : W} {v : V} {ws : List (Key × W)} {vs : List (Key × V)} {F F' : List Addr} : Own G B H w v F → OwnK G B H ws vs F' → OwnK G B H ((k, w) :: ws) ((k, v) :: vs) (F ++ F')
inductive OwnF (G : Gx) (B H : Hp) : List (Str × W) → List (Str × V) → List Addr → Prop
  | nil : OwnF G B H [] [] []
  | cons {k : Str} {w : W} {v : V} {ws : List (Str × W)} {vs : List (Str × V)} {F F' : List Addr} : Own G B H w v F → OwnF G B H ws vs F' → OwnF G B H ((k, w) :: ws) ((k, v) :: vs) (F ++ F')
end

def isDct : HO → Prop
  | .dK _ => True
  | _ => False
/-- the settled part lies in the heap (a dict may be locked) -/
structure Sub (B H : Hp) : Prop where
  at_ : ∀ a o, B a = some o → H a = some o ∨ (isDct o ∧ ∃ ob, H a = some (.frz ob o))
  nt : ∀ a ps, B a ≠ some (.tbl ps)
instance {B H : Hp} : CoeFun (Sub B H) (fun _ => ∀ a o, B a = some o → H a = some o ∨ (isDct o ∧ ∃ ob, H a = some (.frz ob o))) := ⟨fun s => s.at_⟩
/-- all of B stands in B' -/
def Le (B B' : Hp) : Prop := ∀ a o, B a = some o → B' a = some o
theorem Le.refl (B : Hp) : Le B B := fun _ _ h => h
theorem Le.trans {A B C : Hp} (h : Le A B) (k : Le B C) : Le A C := fun a o e => k a o (h a o e)
theorem Le.upd {B : Hp} {p : Addr} {o : HO} (h : B p = none) : Le B (upd B p o) := fun a u e => by rw [upd_ne (ne_of_none e h)]; exact e

theorem sqT_le {K : PySem.W.Frag} {B B' : Hp} {a : Addr} {xs : List V} (e : Le B B') (h : SqT K B a xs) : SqT K B' a xs := by
  rcases h with (h | ⟨o, h⟩) | h
  · exact .inl (.inl (e _ _ h))
  · exact .inl (.inr ⟨o, e _ _ h⟩)
  · exact .inr h
theorem sqL_le {K : PySem.W.Frag} {B B' : Hp} {a : Addr} {xs : List V} (e : Le B B') (h : SqL K B a xs) : SqL K B' a xs := by
  rcases h with (h | ⟨o, h⟩) | h
  · exact .inl (.inl (e _ _ h))
  · exact .inl (.inr ⟨o, e _ _ h⟩)
  · exact .inr h
theorem sqT_sub {K : PySem.W.Frag} {B H : Hp} {a : Addr} {xs : List V} (e : Sub B H) (h : SqT K B a xs) : SqT K H a xs := by
  rcases h with (h | ⟨o, h⟩) | h
  · rcases e _ _ h with q | ⟨q, _⟩
    · exact .inl (.inl q)
    · exact q.elim
  · rcases e _ _ h with q | ⟨q, _⟩
    · exact .inl (.inr ⟨o, q⟩)
    · exact q.elim
  · exact .inr h
theorem sqL_sub {K : PySem.W.Frag} {B H : Hp} {a : Addr} {xs : List V} (e : Sub B H) (h : SqL K B a xs) : SqL K H a xs := by
  rcases h with (h | ⟨o, h⟩) | h
  · rcases e _ _ h with q | ⟨q, _⟩
    · exact .inl (.inl q)
    · exact q.elim
  · rcases e _ _ h with q | ⟨q, _⟩
    · exact .inl (.inr ⟨o, q⟩)
    · exact q.elim
  · exact .inr h

section
variable {G : Gx} {B B' H H' : Hp}
mutual
theorem Rep.mono (e : Le B B') : ∀ {d : D} {v : V}, Rep G B d v → Rep G B' d v
  | _, _, .non => .non
  | _, _, .bl => .bl
  | _, _, .int => .int
  | _, _, .str => .str
  | _, _, .tup h r => .tup (sqT_le e h) (RepL.mono e r)
  | _, _, .lst h r => .lst (e _ _ h) (RepL.mono e r)
  | _, _, .scr h => .scr (sqL_le e h)
  | _, _, .exc h k => .exc h fun dx z => (k dx z).imp fun _ q => e _ _ q
  | _, _, .dct h r => .dct (e _ _ h) (RepK.mono e r)
  | _, _, .obj m h r => .obj m (e _ _ h) (RepF.mono e r)
theorem RepL.mono (e : Le B B') : ∀ {ds : List D} {vs : List V}, RepL G B ds vs → RepL G B' ds vs
  | _, _, .nil => .nil
  | _, _, .cons h r => .cons (Rep.mono e h) (RepL.mono e r)
theorem RepK.mono (e : Le B B') : ∀ {ds : List (Key × D)} {vs : List (Key × V)}, RepK G B ds vs → RepK G B' ds vs
  | _, _, .nil => .nil
  | _, _, .cons h r => .cons (Rep.mono e h) (RepK.mono e r)
theorem RepF.mono (e : Le B B') : ∀ {ds : List (Str × D)} {vs : List (Str × V)}, RepF G B ds vs → RepF G B' ds vs
  | _, _, .nil => .nil
  | _, _, .cons h r => .cons (Rep.mono e h) (RepF.mono e r)
end
mutual
theorem Own.mono (e : Le B B') : ∀ {w : W} {v : V} {F : List Addr}, Own G B H w v F → (∀ a ∈ F, ∀ o, H a = some o → H' a = some o) → Own G B' H' w v F
  | _, _, _, .fr h, _ => .fr (h.mono e)
  | _, _, _, .lst h r, k => .lst (k _ (List.mem_cons_self ..) _ h) (OwnL.mono e r fun a ha => k a (List.mem_cons_of_mem _ ha))
  | _, _, _, .tup h r, k => .tup (k _ (List.mem_cons_self ..) _ h) (OwnL.mono e r fun a ha => k a (List.mem_cons_of_mem _ ha))
  | _, _, _, .dct h r, k => .dct (k _ (List.mem_cons_self ..) _ h) (OwnK.mono e r fun a ha => k a (List.mem_cons_of_mem _ ha))
  | _, _, _, .obj m h r, k => .obj m (k _ (List.mem_cons_self ..) _ h) (OwnF.mono e r fun a ha => k a (List.mem_cons_of_mem _ ha))
theorem OwnL.mono (e : Le B B') : ∀ {ws : List W} {vs : List V} {F : List Addr}, OwnL G B H ws vs F → (∀ a ∈ F, ∀ o, H a = some o → H' a = some o) → OwnL G B' H' ws vs F
  | _, _, _, .nil, _ => .nil
  | _, _, _, .cons h r, k => .cons (Own.mono e h fun a ha => k a (List.mem_append_left _ ha)) (OwnL.mono e r fun a ha => k a (List.mem_append_right _ ha))
theorem OwnK.mono (e : Le B B') : ∀ {ws : List (Key × W)} {vs : List (Key × V)} {F : List Addr}, OwnK G B H ws vs F → (∀ a ∈ F, ∀ o, H a = some o → H' a = some o) → OwnK G B' H' ws vs F
  | _, _, _, .nil, _ => .nil
  | _, _, _, .cons h r, k => .cons (Own.mono e h fun a ha => k a (List.mem_append_left _ ha)) (OwnK.mono e r fun a ha => k a (List.mem_append_right _ ha))
theorem OwnF.mono (e : Le B B') : ∀ {ws : List (Str × W)} {vs : List (Str × V)} {F : List Addr}, OwnF G B H ws vs F → (∀ a ∈ F, ∀ o, H a = some o → H' a = some o) → OwnF G B' H' ws vs F
  | _, _, _, .nil, _ => .nil
  | _, _, _, .cons h r, k => .cons (Own.mono e h fun a ha => k a (List.mem_append_left _ ha)) (OwnF.mono e r fun a ha => k a (List.mem_append_right _ ha))
end
mutual
theorem Own.live : ∀ {w : W} {v : V} {F : List Addr}, Own G B H w v F → ∀ a ∈ F, ∃ o, H a = some o ∧ ∀ ps, o ≠ HO.tbl ps
  | _, _, _, .fr _, a, ha => by cases ha
  | _, _, _, .lst h r, a, ha => by
    rcases List.mem_cons.mp ha with rfl | ha
    · exact ⟨_, h, fun _ z => by cases z⟩
    · exact OwnL.live r a ha
  | _, _, _, .tup h r, a, ha => by
    rcases List.mem_cons.mp ha with rfl | ha
    · exact ⟨_, h, fun _ z => by cases z⟩
    · exact OwnL.live r a ha
  | _, _, _, .dct h r, a, ha => by
    rcases List.mem_cons.mp ha with rfl | ha
    · exact ⟨_, h, fun _ z => by cases z⟩
    · exact OwnK.live r a ha
  | _, _, _, .obj _ h r, a, ha => by
    rcases List.mem_cons.mp ha with rfl | ha
    · exact ⟨_, h, fun _ z => by cases z⟩
    · exact OwnF.live r a ha
theorem OwnL.live : ∀ {ws : List W} {vs : List V} {F : List Addr}, OwnL G B H ws vs F → ∀ a ∈ F, ∃ o, H a = some o ∧ ∀ ps, o ≠ HO.tbl ps
  | _, _, _, .nil, a, ha => by cases ha
  | _, _, _, .cons h r, a, ha => (List.mem_append.mp ha).elim (Own.live h a) (OwnL.live r a)
theorem OwnK.live : ∀ {ws : List (Key × W)} {vs : List (Key × V)} {F : List Addr}, OwnK G B H ws vs F → ∀ a ∈ F, ∃ o, H a = some o ∧ ∀ ps, o ≠ HO.tbl ps
  | _, _, _, .nil, a, ha => by cases ha
  | _, _, _, .cons h r, a, ha => (List.mem_append.mp ha).elim (Own.live h a) (OwnK.live r a)
theorem OwnF.live : ∀ {ws : List (Str × W)} {vs : List (Str × V)} {F : List Addr}, OwnF G B H ws vs F → ∀ a ∈ F, ∃ o, H a = some o ∧ ∀ ps, o ≠ HO.tbl ps
  | _, _, _, .nil, a, ha => by cases ha
  | _, _, _, .cons h r, a, ha => (List.mem_append.mp ha).elim (Own.live h a) (OwnF.live r a)
end
end

/-! ### slots, values held meanwhile, the state -/
abbrev Sl := List (Option W)
inductive OwnS (G : Gx) (B H : Hp) : St → Sl → List Addr → Prop
  | nil {σ : St} : OwnS G B H σ [] []
  | hole {o : Option V} {σ : St} {S : Sl} {F : List Addr} : OwnS G B H σ S F → OwnS G B H (o :: σ) (none :: S) F
  | put {v : V} {w : W} {σ : St} {S : Sl} {F F' : List Addr} : Own G B H w v F → OwnS G B H σ S F' → OwnS G B H (some v :: σ) (some w :: S) (F ++ F')
abbrev Tmp := List (V × W)
inductive OwnT (G : Gx) (B H : Hp) : Tmp → List Addr → Prop
  | nil : OwnT G B H [] []
  | cons {v : V} {w : W} {ts : Tmp} {F F' : List Addr} : Own G B H w v F → OwnT G B H ts F' → OwnT G B H ((v, w) :: ts) (F ++ F')
section
variable {G : Gx} {B B' H H' : Hp}
theorem OwnS.mono (e : Le B B') {σ : St} {S : Sl} {F : List Addr} (h : OwnS G B H σ S F) (k : ∀ a ∈ F, ∀ o, H a = some o → H' a = some o) : OwnS G B' H' σ S F := by
  induction h with
  | nil => exact .nil
  | hole _ ih => exact .hole (ih k)
  | put h _ ih => exact .put (h.mono e fun a ha => k a (List.mem_append_left _ ha)) (ih fun a ha => k a (List.mem_append_right _ ha))
theorem OwnT.mono (e : Le B B') {ts : Tmp} {F : List Addr} (h : OwnT G B H ts F) (k : ∀ a ∈ F, ∀ o, H a = some o → H' a = some o) : OwnT G B' H' ts F := by
  induction h with
  | nil => exact .nil
  | cons h _ ih => exact .cons (h.mono e fun a ha => k a (List.mem_append_left _ ha)) (ih fun a ha => k a (List.mem_append_right _ ha))
theorem OwnS.live {σ : St} {S : Sl} {F : List Addr} (h : OwnS G B H σ S F) : ∀ a ∈ F, ∃ o, H a = some o ∧ ∀ ps, o ≠ HO.tbl ps := by
  induction h with
  | nil => intro a ha; cases ha
  | hole _ ih => exact ih
  | put h _ ih => intro a ha; exact (List.mem_append.mp ha).elim (h.live a) (ih a)
theorem OwnT.live {ts : Tmp} {F : List Addr} (h : OwnT G B H ts F) : ∀ a ∈ F, ∃ o, H a = some o ∧ ∀ ps, o ≠ HO.tbl ps := by
  induction h with
  | nil => intro a ha; cases ha
  | cons h _ ih => intro a ha; exact (List.mem_append.mp ha).elim (h.live a) (ih a)
end
/-- the state: slots, values held, the settled part, the cells that are owned -/
structure Sta (G : Gx) (σ : St) (H : Hp) (S : Sl) (ts : Tmp) (B : Hp) (F : List Addr) : Prop where
  sub : Sub B H
  tabs : LamX.Tabs G.T.l H
  own : ∃ F1 F2, OwnS G B H σ S F1 ∧ OwnT G B H ts F2 ∧ F.Perm (F1 ++ F2)
  nd : F.Nodup
  apart : ∀ a ∈ F, B a = none
def Live (H : Hp) (a : Addr) : Prop := ∃ o, H a = some o ∧ ∀ ps, o ≠ HO.tbl ps
theorem not_live {H : Hp} {a : Addr} (h : H a = none) : ¬ Live H a := fun ⟨o, e, _⟩ => by rw [h] at e; cases e
/-- what a step may change -/
structure Ch (H B : Hp) (F : List Addr) (H' B' : Hp) (F' : List Addr) : Prop where
  keep : ∀ a o, H a = some o → (∀ ps, o ≠ HO.tbl ps) → a ∉ F → H' a = some o
  le : Le B B'
  own : ∀ a, a ∈ F' → a ∈ F ∨ ¬ Live H a
  fresh : ∀ a o, B' a = some o → B a = some o ∨ a ∈ F ∨ ¬ Live H a
theorem Ch.refl {H B : Hp} {F : List Addr} : Ch H B F H B F := ⟨fun _ _ h _ _ => h, Le.refl _, fun _ h => .inl h, fun _ _ h => .inl h⟩
theorem Ch.back {H B H1 B1 : Hp} {F F1 : List Addr} (c : Ch H B F H1 B1 F1) {x : Addr} (h : ¬ Live H1 x) : x ∈ F ∨ ¬ Live H x := by
  by_cases hf : x ∈ F
  · exact .inl hf
  · exact .inr fun ⟨o, e, n⟩ => h ⟨o, c.keep x o e n hf, n⟩
theorem Ch.trans {H B H1 B1 H2 B2 : Hp} {F F1 F2 : List Addr} (a : Ch H B F H1 B1 F1) (b : Ch H1 B1 F1 H2 B2 F2) : Ch H B F H2 B2 F2 where
  keep := fun x o e n hf => b.keep x o (a.keep x o e n hf) n fun h1 => (a.own x h1).elim hf fun z => z ⟨o, e, n⟩
  le := a.le.trans b.le
  own := fun x h => (b.own x h).elim (a.own x) a.back
  fresh := fun x o h => by
    rcases b.fresh x o h with h | h | h
    · exact a.fresh x o h
    · exact .inr (a.own x h)
    · exact .inr (a.back h)
/-- a step over fewer cells is one over more -/
theorem Ch.wide {H B H1 B1 : Hp} {F F1 F' F1' : List Addr} (a : Ch H B F H1 B1 F1) (h : ∀ x ∈ F, x ∈ F') (h1 : ∀ x ∈ F1', x ∈ F1 ∨ x ∈ F') : Ch H B F' H1 B1 F1' where
  keep := fun x o e n hf => a.keep x o e n fun z => hf (h x z)
  le := a.le
  own := fun x z => (h1 x z).elim (fun z => (a.own x z).imp (h x) id) .inl
  fresh := fun x o z => (a.fresh x o z).imp id (·.imp (h x) id)

section
variable {G : Gx} {σ σ' : St} {H H' : Hp} {S S' : Sl} {ts ts' : Tmp} {B B' : Hp} {F F' : List Addr}
theorem Sta.live (s : Sta G σ H S ts B F) {a : Addr} (h : a ∈ F) : Live H a := by
  obtain ⟨F1, F2, o1, o2, p⟩ := s.own
  rcases List.mem_append.mp (p.mem_iff.mp h) with h | h
  · exact o1.live a h
  · exact o2.live a h
theorem Sta.perm (s : Sta G σ H S ts B F) (p : F'.Perm F) : Sta G σ H S ts B F' := by
  obtain ⟨F1, F2, o1, o2, q⟩ := s.own
  exact ⟨s.sub, s.tabs, ⟨F1, F2, o1, o2, p.trans q⟩, p.nodup_iff.mpr s.nd, fun a h => s.apart a (p.mem_iff.mp h)⟩
/-- the slots apart, the rest apart -/
theorem Sta.split (s : Sta G σ H S (ts ++ ts') B F) : ∃ F1 F2, Sta G σ H S ts B F1 ∧ Sta G [] H [] ts' B F2 ∧ F.Perm (F1 ++ F2) := by
  obtain ⟨F1, F2, o1, o2, p⟩ := s.own
  have sp : ∀ {l l' : Tmp} {F : List Addr}, OwnT G B H (l ++ l') F → ∃ Fa Fb, OwnT G B H l Fa ∧ OwnT G B H l' Fb ∧ F = Fa ++ Fb := by
    intro l
    induction l with
    | nil => intro l' F h; exact ⟨[], F, .nil, h, rfl⟩
    | cons x l ih =>
      intro l' F h
      cases h with
      | cons h r =>
        obtain ⟨Fa, Fb, ha, hb, rfl⟩ := ih r
        exact ⟨_, Fb, .cons h ha, hb, by rw [List.append_assoc]⟩
  obtain ⟨Fa, Fb, ha, hb, rfl⟩ := sp o2
  have p' : F.Perm ((F1 ++ Fa) ++ Fb) := by rw [List.append_assoc]; exact p
  have nd := p'.nodup_iff.mp s.nd
  have nd2 := List.nodup_append.mp nd
  exact ⟨F1 ++ Fa, Fb, ⟨s.sub, s.tabs, ⟨F1, Fa, o1, ha, .refl _⟩, nd2.1, fun a h => s.apart a (p'.mem_iff.mpr (List.mem_append_left _ h))⟩,
    ⟨s.sub, s.tabs, ⟨[], Fb, .nil, hb, .refl _⟩, nd2.2.1, fun a h => s.apart a (p'.mem_iff.mpr (List.mem_append_right _ h))⟩, p'⟩
theorem OwnT.app : ∀ {l l' : Tmp} {Fa Fb : List Addr}, OwnT G B H l Fa → OwnT G B H l' Fb → OwnT G B H (l ++ l') (Fa ++ Fb)
  | _, _, _, _, .nil, h => h
  | _, _, _, _, .cons h r, h' => by rw [List.append_assoc]; exact .cons h (OwnT.app r h')
/-- a step over a part is a step of the whole -/
theorem Sta.join {F1 F2 F1' : List Addr} (s1 : Sta G σ' H' S' ts B' F1') (c : Ch H B F1 H' B' F1') (s2 : Sta G [] H [] ts' B F2) (p : F.Perm (F1 ++ F2)) (nd : F.Nodup) :
    Sta G σ' H' S' (ts ++ ts') B' (F1' ++ F2) ∧ Ch H B F H' B' (F1' ++ F2) := by
  have nd1 := List.nodup_append.mp (p.nodup_iff.mp nd)
  have dj : ∀ a ∈ F2, a ∉ F1 := fun a h2 h1 => nd1.2.2 a h1 a h2 rfl
  have dj' : ∀ a ∈ F2, a ∉ F1' := fun a h2 h1 => (c.own a h1).elim (dj a h2) fun z => z (s2.live h2)
  obtain ⟨Fa, Fb, oa, ob, q⟩ := s1.own
  obtain ⟨Fc, Fd, oc, od, r⟩ := s2.own
  have ec : Fc = [] := by cases oc; rfl
  subst ec
  refine ⟨⟨s1.sub, s1.tabs, ⟨Fa, Fb ++ Fd, oa, ?_, ?_⟩, ?_, fun a h => ?_⟩, ?_⟩
  · refine ob.app (od.mono c.le fun a ha o e => ?_)
    have h2 : a ∈ F2 := r.mem_iff.mpr (by simpa using ha)
    obtain ⟨o', e', n⟩ := s2.live h2
    rw [e] at e'; cases e'
    exact c.keep a o e n (dj a h2)
  · rw [← List.append_assoc]
    exact q.append (by simpa using r)
  · exact List.nodup_append.mpr ⟨s1.nd, s2.nd, fun a h1 b h2 e => dj' b h2 (e ▸ h1)⟩
  · rcases List.mem_append.mp h with h | h
    · exact s1.apart a h
    · cases q : B' a with
      | none => rfl
      | some o =>
        rcases c.fresh a o q with z | z | z
        · rw [s2.apart a h] at z; cases z
        · exact absurd z (dj a h)
        · exact absurd (s2.live h) z
  · exact c.wide (fun x h => p.mem_iff.mpr (List.mem_append_left _ h)) fun x h => (List.mem_append.mp h).imp id fun h => p.mem_iff.mpr (List.mem_append_right _ h)
/-- held values may be let go -/
theorem Sta.drop (s : Sta G σ H S (ts ++ ts') B F) : ∃ F', Sta G σ H S ts B F' ∧ Ch H B F H B F' := by
  obtain ⟨F1, F2, s1, s2, p⟩ := s.split
  exact ⟨F1, s1, Ch.refl.wide (F := F) (fun _ h => h) fun x h => .inr (p.mem_iff.mpr (List.mem_append_left _ h))⟩
theorem Sta.drop2 {t : V × W} (s : Sta G σ H S (t :: ts) B F) : ∃ F', Sta G σ H S ts B F' ∧ Ch H B F H B F' := by
  obtain ⟨F1, F2, o1, o2, p⟩ := s.own
  cases o2 with
  | @cons _ _ _ Fa Fb h r =>
    have q : F.Perm ((F1 ++ Fb) ++ Fa) := p.trans (by rw [List.append_assoc]; exact List.Perm.append_left _ List.perm_append_comm)
    have nd := List.nodup_append.mp (q.nodup_iff.mp s.nd)
    have mem : ∀ x ∈ F1 ++ Fb, x ∈ F := fun x h => q.mem_iff.mpr (List.mem_append_left _ h)
    exact ⟨F1 ++ Fb, ⟨s.sub, s.tabs, ⟨F1, Fb, o1, r, .refl _⟩, nd.1, fun a h => s.apart a (mem a h)⟩, Ch.refl.wide (F := F) (fun _ h => h) fun x h => .inr (mem x h)⟩
theorem OwnT.turn (p : ts.Perm ts') : ∀ {F2 : List Addr}, OwnT G B H ts F2 → ∃ F3, OwnT G B H ts' F3 ∧ F2.Perm F3 := by
  induction p with
  | nil => intro F2 h; exact ⟨F2, h, .refl _⟩
  | cons x _ ih =>
    intro F2 h
    cases h with
    | cons h r =>
      obtain ⟨F3, r', p'⟩ := ih r
      exact ⟨_, .cons h r', p'.append_left _⟩
  | swap x y l =>
    intro F2 h
    cases h with
    | cons h r =>
      cases r with
      | cons h' r' =>
        refine ⟨_, .cons h' (.cons h r'), ?_⟩
        rw [← List.append_assoc, ← List.append_assoc]
        exact List.perm_append_comm.append_right _
  | trans _ _ ih1 ih2 =>
    intro F2 h
    obtain ⟨F3, h3, p3⟩ := ih1 h
    obtain ⟨F4, h4, p4⟩ := ih2 h3
    exact ⟨F4, h4, p3.trans p4⟩
/-- held values in another turn -/
theorem Sta.turn (s : Sta G σ H S ts B F) (p : ts.Perm ts') : Sta G σ H S ts' B F := by
  obtain ⟨F1, F2, o1, o2, q⟩ := s.own
  obtain ⟨F3, o3, p3⟩ := o2.turn p
  exact ⟨s.sub, s.tabs, ⟨F1, F3, o1, o3, q.trans (p3.append_left _)⟩, s.nd, s.apart⟩

/-! ### settling -/
mutual
def W.toD : W → D
  | .fr d => d
  | .lst ws => .lst (toDL ws)
  | .tup ws => .tup (toDL ws)
  | .dct kvs => .dct (toDK kvs)
  | .obj c fs => .obj c (toDF fs)
def toDL : List W → List D
  | [] => []
  | w :: ws => w.toD :: toDL ws
def toDK : List (Key × W) → List (Key × D)
  | [] => []
  | (k, w) :: ws => (k, w.toD) :: toDK ws
def toDF : List (Str × W) → List (Str × D)
  | [] => []
  | (k, w) :: ws => (k, w.toD) :: toDF ws
end
noncomputable def add (B H : Hp) (F : List Addr) : Hp := open Classical in fun a => if a ∈ F then H a else B a
theorem add_in {a : Addr} (h : a ∈ F) : add B H F a = H a := by unfold add; rw [if_pos h]
theorem add_out {a : Addr} (h : a ∉ F) : add B H F a = B a := by unfold add; rw [if_neg h]
theorem add_le (h : ∀ a ∈ F, B a = none) : Le B (add B H F) := fun a o e => by
  by_cases q : a ∈ F
  · rw [h a q] at e; cases e
  · rw [add_out q]; exact e
theorem add_sub (h : Sub B H) (lv : ∀ a ∈ F, ∃ o, H a = some o ∧ ∀ ps, o ≠ HO.tbl ps) : Sub (add B H F) H := by
  refine ⟨fun a o e => ?_, fun a ps e => ?_⟩
  · by_cases q : a ∈ F
    · rw [add_in q] at e; exact .inl e
    · rw [add_out q] at e; exact h a o e
  · by_cases q : a ∈ F
    · rw [add_in q] at e
      obtain ⟨o, e2, n⟩ := lv a q
      rw [e] at e2
      exact n ps (Option.some.inj e2).symm
    · rw [add_out q] at e; exact h.nt a ps e
mutual
theorem Own.rep (l : Le B B') : ∀ {w : W} {v : V} {F : List Addr}, Own G B H w v F → (∀ a ∈ F, ∀ o, H a = some o → B' a = some o) → Rep G B' w.toD v
  | _, _, _, .fr h, _ => h.mono l
  | _, _, _, .lst h r, k => .lst (k _ (List.mem_cons_self ..) _ h) (OwnL.rep l r fun a ha => k a (List.mem_cons_of_mem _ ha))
  | _, _, _, .tup h r, k => .tup (SqT.of (k _ (List.mem_cons_self ..) _ h)) (OwnL.rep l r fun a ha => k a (List.mem_cons_of_mem _ ha))
  | _, _, _, .dct h r, k => .dct (k _ (List.mem_cons_self ..) _ h) (OwnK.rep l r fun a ha => k a (List.mem_cons_of_mem _ ha))
  | _, _, _, .obj m h r, k => .obj m (k _ (List.mem_cons_self ..) _ h) (OwnF.rep l r fun a ha => k a (List.mem_cons_of_mem _ ha))
theorem OwnL.rep (l : Le B B') : ∀ {ws : List W} {vs : List V} {F : List Addr}, OwnL G B H ws vs F → (∀ a ∈ F, ∀ o, H a = some o → B' a = some o) → RepL G B' (toDL ws) vs
  | _, _, _, .nil, _ => .nil
  | _, _, _, .cons h r, k => .cons (Own.rep l h fun a ha => k a (List.mem_append_left _ ha)) (OwnL.rep l r fun a ha => k a (List.mem_append_right _ ha))
theorem OwnK.rep (l : Le B B') : ∀ {ws : List (Key × W)} {vs : List (Key × V)} {F : List Addr}, OwnK G B H ws vs F → (∀ a ∈ F, ∀ o, H a = some o → B' a = some o) → RepK G B' (toDK ws) vs
  | _, _, _, .nil, _ => .nil
  | _, _, _, .cons h r, k => .cons (Own.rep l h fun a ha => k a (List.mem_append_left _ ha)) (OwnK.rep l r fun a ha => k a (List.mem_append_right _ ha))
theorem OwnF.rep (l : Le B B') : ∀ {ws : List (Str × W)} {vs : List (Str × V)} {F : List Addr}, OwnF G B H ws vs F → (∀ a ∈ F, ∀ o, H a = some o → B' a = some o) → RepF G B' (toDF ws) vs
  | _, _, _, .nil, _ => .nil
  | _, _, _, .cons h r, k => .cons (Own.rep l h fun a ha => k a (List.mem_append_left _ ha)) (OwnF.rep l r fun a ha => k a (List.mem_append_right _ ha))
end
/-- the newest held value is settled -/
theorem Sta.settle {v : V} {w : W} (s : Sta G σ H S ((v, w) :: ts) B F) : ∃ B' F', Sta G σ H S ((v, .fr w.toD) :: ts) B' F' ∧ Ch H B F H B' F' := by
  obtain ⟨F1, F2, o1, o2, p⟩ := s.own
  cases o2 with
  | @cons _ _ _ Fa Fb h r =>
    have q : F.Perm ((F1 ++ Fb) ++ Fa) := p.trans (by rw [List.append_assoc]; exact List.Perm.append_left _ List.perm_append_comm)
    have nd := List.nodup_append.mp (q.nodup_iff.mp s.nd)
    have mem : ∀ x ∈ F1 ++ Fb, x ∈ F := fun x h => q.mem_iff.mpr (List.mem_append_left _ h)
    have memA : ∀ x ∈ Fa, x ∈ F := fun x h => q.mem_iff.mpr (List.mem_append_right _ h)
    have l : Le B (add B H Fa) := add_le fun a h => s.apart a (memA a h)
    refine ⟨add B H Fa, F1 ++ Fb, ⟨add_sub s.sub h.live, s.tabs, ⟨F1, [] ++ Fb, o1.mono l fun _ _ _ e => e, .cons (.fr (h.rep l fun a ha o e => by rw [add_in ha]; exact e)) (r.mono l fun _ _ _ e => e), .refl _⟩, nd.1, fun a h => ?_⟩,
      ⟨fun _ _ e _ _ => e, l, fun a h => .inl (mem a h), fun a o e => ?_⟩⟩
    · rw [add_out fun z => nd.2.2 a h a z rfl]
      exact s.apart a (mem a h)
    · by_cases z : a ∈ Fa
      · exact .inr (.inl (memA a z))
      · rw [add_out z] at e; exact .inl e

/-! ### slots taken out and put back -/
theorem OwnS.take {i : Nat} {w : W} (h : OwnS G B H σ S F) (e : S[i]? = some (some w)) : ∃ v Fa Fb, σ[i]? = some (some v) ∧ Own G B H w v Fa ∧ OwnS G B H σ (S.set i none) Fb ∧ F.Perm (Fb ++ Fa) := by
  induction h generalizing i with
  | nil => simp at e
  | hole _ ih =>
    cases i with
    | zero => simp at e
    | succ i =>
      obtain ⟨v, Fa, Fb, h1, h2, h3, h4⟩ := ih (i := i) (by simpa using e)
      exact ⟨v, Fa, Fb, by simpa using h1, h2, .hole h3, h4⟩
  | @put v0 w0 σ S Fc Fd h r ih =>
    cases i with
    | zero =>
      have e : w0 = w := by simpa using e
      subst e
      exact ⟨v0, Fc, Fd, rfl, h, .hole r, List.perm_append_comm⟩
    | succ i =>
      obtain ⟨v, Fa, Fb, h1, h2, h3, h4⟩ := ih (i := i) (by simpa using e)
      exact ⟨v, Fa, Fc ++ Fb, by simpa using h1, h2, .put h h3, by rw [List.append_assoc]; exact h4.append_left _⟩
theorem OwnS.give {i : Nat} {w : W} {v : V} {Fa : List Addr} (h : OwnS G B H σ S F) (e : S[i]? = some none) (ev : σ[i]? = some (some v)) (o : Own G B H w v Fa) : ∃ Fb, OwnS G B H σ (S.set i (some w)) Fb ∧ Fb.Perm (F ++ Fa) := by
  induction h generalizing i with
  | nil => simp at e
  | @hole o0 σ S F h ih =>
    cases i with
    | zero =>
      have e2 : o0 = some v := by simpa using ev
      subst e2
      exact ⟨_, .put o h, List.perm_append_comm⟩
    | succ i =>
      obtain ⟨Fb, h1, h2⟩ := ih (i := i) (by simpa using e) (by simpa using ev)
      exact ⟨Fb, .hole h1, h2⟩
  | put h r ih =>
    cases i with
    | zero => simp at e
    | succ i =>
      obtain ⟨Fb, h1, h2⟩ := ih (i := i) (by simpa using e) (by simpa using ev)
      exact ⟨_, .put h h1, by rw [List.append_assoc]; exact h2.append_left _⟩
/-- an empty slot's name may hold anything -/
theorem OwnS.any {i : Nat} {o : Option V} (h : OwnS G B H σ S F) (e : S[i]? = some none ∨ S[i]? = none) : OwnS G B H (σ.set i o) S F := by
  induction h generalizing i with
  | nil => exact .nil
  | hole h ih =>
    cases i with
    | zero => exact .hole h
    | succ i => exact .hole (ih (i := i) (by simpa using e))
  | put h r ih =>
    cases i with
    | zero => rcases e with e | e <;> simp at e
    | succ i => exact .put h (ih (i := i) (by simpa using e))
theorem Sta.park {i : Nat} {w : W} (s : Sta G σ H S ts B F) (e : S[i]? = some (some w)) : ∃ v, σ[i]? = some (some v) ∧ Sta G σ H (S.set i none) ((v, w) :: ts) B F := by
  obtain ⟨F1, F2, o1, o2, p⟩ := s.own
  obtain ⟨v, Fa, Fb, h1, h2, h3, h4⟩ := o1.take e
  exact ⟨v, h1, s.sub, s.tabs, ⟨Fb, Fa ++ F2, h3, .cons h2 o2, by rw [← List.append_assoc]; exact p.trans (h4.append_right _)⟩, s.nd, s.apart⟩
theorem Sta.unpark {i : Nat} {w : W} {v : V} (s : Sta G σ H S ((v, w) :: ts) B F) (e : S[i]? = some none) (ev : σ[i]? = some (some v)) : Sta G σ H (S.set i (some w)) ts B F := by
  obtain ⟨F1, F2, o1, o2, p⟩ := s.own
  cases o2 with
  | cons h r =>
    obtain ⟨Fb, h1, h2⟩ := o1.give e ev h
    exact ⟨s.sub, s.tabs, ⟨Fb, _, h1, r, p.trans (by rw [← List.append_assoc]; exact h2.symm.append_right _)⟩, s.nd, s.apart⟩
theorem Sta.any {i : Nat} {o : Option V} (s : Sta G σ H S ts B F) (e : S[i]? = some none ∨ S[i]? = none) : Sta G (σ.set i o) H S ts B F := by
  obtain ⟨F1, F2, o1, o2, p⟩ := s.own
  exact ⟨s.sub, s.tabs, ⟨F1, F2, o1.any e, o2, p⟩, s.nd, s.apart⟩
end
end VD

set_option Elab.async false
set_option linter.all false
set_option maxRecDepth 100000
set_option maxHeartbeats 2000000
namespace VD
open PySem PySem.Spec PyProof.Rows L2

/-! ### what is reckoned -/
structure Exc where
  c : Str
  fs : Option (Str × D)
  deriving Inhabited
inductive Res (α : Type) where
  | ok (a : α) | ex (c : Exc)
abbrev M (α : Type) := Sl → Option (Res α × Sl)
def bindM {α β : Type} (f : M α) (k : α → M β) : M β := fun S => match f S with
  | none => none
  | some (.ex c, S') => some (.ex c, S')
  | some (.ok a, S') => k a S'
def pureM {α : Type} (a : α) : M α := fun S => some (.ok a, S)
/-- an operand: a value held, or what a slot has when it is used -/
inductive Opd where
  | tmp (w : W) | at (i : Nat)
def Opd.get (S : Sl) : Opd → Option W
  | .tmp w => some w
  | .at i => (S[i]?).join
structure Kd (α β : Type) where
  tm : α → β → Tmp
  ok : St → α → β → Prop
def kW : Kd W V := ⟨fun w v => [(v, w)], fun _ _ _ => True⟩
def Opd.tmps : Opd → V → Tmp
  | .tmp w, v => [(v, w)]
  | .at _, _ => []
def Opd.ok (σ : St) : Opd → V → Prop
  | .tmp _, _ => True
  | .at i, v => σ[i]? = some (some v)
def kO : Kd Opd V := ⟨Opd.tmps, Opd.ok⟩
def tmpsL : List Opd → List V → Tmp
  | o :: os, v :: vs => tmpsL os vs ++ o.tmps v
  | _, _ => []
inductive OkL (σ : St) : List Opd → List V → Prop
  | nil : OkL σ [] []
  | cons {o : Opd} {v : V} {os : List Opd} {vs : List V} : o.ok σ v → OkL σ os vs → OkL σ (o :: os) (v :: vs)
def kA : Kd (List Opd) (List V) := ⟨tmpsL, OkL⟩
def kB : Kd Bool Bool := ⟨fun _ _ => [], fun _ a b => a = b⟩

def ExR (G : Gx) (B : Hp) (c : Exc) (cls : Value) (d : Option Addr) (H : Hp) : Prop := ∃ C, G.mg c.c = some (.ref C) ∧ cls = .ref C ∧ match c.fs with
  | none => d = none
  | some (f, x) => ∃ dx v, d = some dx ∧ B dx = some (.xd [(f, v)]) ∧ Rep G B x v
section
variable {α β γ δ : Type} (k : Kd α β) (G : Gx) (σ : St) (H B : Hp) (F : List Addr) (Xw : WX) (Q : β → Hp → Prop)
def Want : Res α → Sl → Prop
  | .ok a, S' => ∀ b H' B' F', k.ok σ a b → Sta G σ H' S' (k.tm a b) B' F' → Ch H B F H' B' F' → Q b H'
  | .ex c, S' => ∀ cls d H' B' F', Sta G σ H' S' [] B' F' → Ch H B F H' B' F' → ExR G B' c cls d H' → Xw cls d σ H'
def rdG (m : M α) : Prop := ∃ S B F o S', Sta G σ H S [] B F ∧ m S = some (o, S') ∧ Want k G σ H B F Xw Q o S'
def Run (ts : Tmp) (m : M α) (H1 : Hp) : Prop := ∃ S B1 F1 o S', Sta G σ H1 S ts B1 F1 ∧ Ch H B F H1 B1 F1 ∧ m S = some (o, S') ∧ Want k G σ H B F Xw Q o S'
end
section
variable {α β γ δ : Type} {k : Kd α β} {k1 : Kd γ δ} {G : Gx} {σ : St} {H B H1 : Hp} {F : List Addr} {Xw : WX} {Q : β → Hp → Prop} {ts : Tmp}
theorem rdG.start {m : M α} (h : rdG k G σ H Xw Q m) : ∃ B F, Run k G σ H B F Xw Q [] m H := by
  obtain ⟨S, B, F, o, S', st, e, w⟩ := h
  exact ⟨B, F, S, B, F, o, S', st, .refl, e, w⟩
theorem Run.step {f : M γ} {g : γ → M α} (h : Run k G σ H B F Xw Q ts (bindM f g) H1) : rdG k1 G σ H1 Xw (fun b H2 => ∃ a, k1.ok σ a b ∧ Run k G σ H B F Xw Q (k1.tm a b ++ ts) (g a) H2) f := by
  obtain ⟨S, B1, F1, o, S', st, c, e, w⟩ := h
  unfold bindM at e
  obtain ⟨Fa, Fb, s1, s2, p⟩ := Sta.split (ts := []) st
  cases e1 : f S with
  | none => rw [e1] at e; cases e
  | some r =>
    obtain ⟨r, S1⟩ := r
    rw [e1] at e
    cases r with
    | ex x =>
      have e : some (Res.ex x, S1) = some (o, S') := e
      cases e
      refine ⟨S, B1, Fa, _, _, s1, e1, fun cls d H' B' F' st' c' xr => ?_⟩
      obtain ⟨j1, j2⟩ := Sta.join st' c' s2 p st.nd
      obtain ⟨F3, j3, c3⟩ := Sta.drop (ts := []) (by simpa using j1)
      exact w cls d H' B' F3 j3 (c.trans (j2.trans c3)) xr
    | ok a =>
      have e : g a S1 = some (o, S') := e
      refine ⟨S, B1, Fa, _, S1, s1, e1, fun b H' B' F' ok st' c' => ?_⟩
      obtain ⟨j1, j2⟩ := Sta.join st' c' s2 p st.nd
      exact ⟨a, ok, S1, B', _, o, S', j1, c.trans j2, e, w⟩
/-- the end: what is held is told -/
theorem Run.done {H1 : Hp} {m : M α} (h : Run k G σ H B F Xw Q ts m H1) {r : Prop} (f : ∀ S B1 F1 o S', Sta G σ H1 S ts B1 F1 → Ch H B F H1 B1 F1 → m S = some (o, S') → Want k G σ H B F Xw Q o S' → r) : r := by
  obtain ⟨S, B1, F1, o, S', st, c, e, w⟩ := h
  exact f S B1 F1 o S' st c e w
end
/-- the context's names -/
def gx (X : Cx) (T : Tx) : Gx := ⟨X.K, X.mg, T⟩
section
variable (T : Tx) (X : Cx) (Xw : WX)
def PV (e : Expr) (f : M W) : Prop := PE X e fun σ H Q => rdG kW (gx X T) σ H Xw Q f
def PO (e : Expr) (f : M Opd) : Prop := PE X e fun σ H Q => rdG kO (gx X T) σ H Xw Q f
def PB (e : Expr) (f : M Bool) : Prop := PT X e fun σ H Q => rdG kB (gx X T) σ H Xw Q f
def PAO (es : List Expr) (f : M (List Opd)) : Prop := PA X es fun σ H Q => rdG kA (gx X T) σ H Xw Q f
end
theorem peImp {X : Cx} {e : Expr} {t t' : TE} (h : PE X e t) (i : ∀ σ H Q, t' σ H Q → t σ H Q) : PE X e t' := ⟨fun pins s σ H Q I q => h.run pins s σ H Q I (i σ H Q q)⟩
theorem ptImp {X : Cx} {e : Expr} {t t' : TT} (h : PT X e t) (i : ∀ σ H Q, t' σ H Q → t σ H Q) : PT X e t' := ⟨fun pins s σ H Q I q => h.run pins s σ H Q I (i σ H Q q)⟩
theorem pwImp {X : Cx} {e : Expr} {t t' : TT} (h : PW X e t) (i : ∀ σ H Q, t' σ H Q → t σ H Q) : PW X e t' := ⟨fun wh pins s σ H Q I q => h.run wh pins s σ H Q I (i σ H Q q)⟩
theorem paImp {X : Cx} {es : List Expr} {t t' : TA} (h : PA X es t) (i : ∀ σ H Q, t' σ H Q → t σ H Q) : PA X es t' := ⟨fun pos pins s σ H Q I q => h.run pos pins s σ H Q I (i σ H Q q)⟩
theorem psImp {X : Cx} {e : Stmt} {t t' : TS} (h : PS X e t) (i : ∀ D σ H, t' D σ H → t D σ H) : PS X e t' := ⟨fun pins s σ H D I q => h.run pins s σ H D I (i D σ H q)⟩
theorem pssImp {X : Cx} {e : List Stmt} {t t' : TS} (h : PSs X e t) (i : ∀ D σ H, t' D σ H → t D σ H) : PSs X e t' := ⟨fun pins s σ H D I q => h.run pins s σ H D I (i D σ H q)⟩

section
variable {G : Gx} {σ : St} {H H' B : Hp} {S : Sl} {ts : Tmp} {F : List Addr}
/-- all that stood stands -/
def Grow (H H' : Hp) : Prop := ∀ a o, H a = some o → H' a = some o
theorem Grow.refl : Grow H H := fun _ _ h => h
theorem Grow.new {p : Addr} {o : HO} (h : H p = none) : Grow H (upd H p o) := fun a u e => by rw [upd_ne (ne_of_none e h)]; exact e
theorem Sub.grow (s : Sub B H) (g : Grow H H') : Sub B H' := ⟨fun a o e => (s a o e).imp (g a o) fun ⟨q, ob, z⟩ => ⟨q, ob, g a _ z⟩, s.nt⟩
theorem Sta.grow (s : Sta G σ H S ts B F) (g : Grow H H') : Sta G σ H' S ts B F := by
  obtain ⟨F1, F2, o1, o2, p⟩ := s.own
  exact ⟨s.sub.grow g, s.tabs.ext g, ⟨F1, F2, o1.mono (Le.refl _) fun a _ => g a, o2.mono (Le.refl _) fun a _ => g a, p⟩, s.nd, s.apart⟩
theorem Ch.grow (g : Grow H H') : Ch H B F H' B F := ⟨fun a o e _ _ => g a o e, Le.refl _, fun _ h => .inl h, fun _ _ h => .inl h⟩
/-- a new value comes -/
theorem Sta.more {v : V} {w : W} {B' : Hp} {Fw : List Addr} (s : Sta G σ H S ts B F) (g : Grow H H') (l : Le B B') (sb : Sub B' H') (fr : ∀ a o, B' a = some o → B a = some o ∨ ¬ Live H a) (o : Own G B' H' w v Fw) (n : ∀ a ∈ Fw, ¬ Live H a) (nb : ∀ a ∈ Fw, B' a = none) (nd : Fw.Nodup) :
    Sta G σ H' S ((v, w) :: ts) B' (Fw ++ F) ∧ Ch H B F H' B' (Fw ++ F) := by
  obtain ⟨F1, F2, o1, o2, p⟩ := (s.grow g).own
  refine ⟨⟨sb, s.tabs.ext g, ⟨F1, Fw ++ F2, o1.mono l fun _ _ _ e => e, .cons o (o2.mono l fun _ _ _ e => e), ?_⟩, ?_, fun a h => ?_⟩, ⟨fun a o e _ _ => g a o e, l, fun a h => ?_, fun a o h => (fr a o h).imp id .inr⟩⟩
  · refine (p.append_left _).trans ?_
    rw [← List.append_assoc, ← List.append_assoc]
    exact List.perm_append_comm.append_right _
  · exact List.nodup_append.mpr ⟨nd, s.nd, fun a h1 b h2 e => n a h1 (e ▸ s.live h2)⟩
  · rcases List.mem_append.mp h with h | h
    · exact nb a h
    · cases q : B' a with
      | none => rfl
      | some o =>
        rcases fr a o q with z | z
        · rw [s.apart a h] at z; cases z
        · exact absurd (s.live h) z
  · exact (List.mem_append.mp h).elim (fun h => .inr (n a h)) .inl
theorem fresh_b {a : Addr} (s : Sub B H) (h : H a = none) : B a = none := by
  cases q : B a with
  | none => rfl
  | some o =>
    rcases s a o q with z | ⟨_, ob, z⟩ <;> rw [h] at z <;> cases z
/-- a settled value comes -/
theorem Sta.old {v : V} {d : D} (s : Sta G σ H S ts B F) (r : Rep G B d v) : Sta G σ H S ((v, .fr d) :: ts) B F := by
  have := (s.more (Fw := []) .refl (Le.refl _) s.sub (fun _ _ h => .inl h) (.fr r) (fun _ h => by cases h) (fun _ h => by cases h) List.nodup_nil).1
  simpa using this
end
/-- what a slot, a held value shows -/
def Vw (G : Gx) (B H : Hp) (w : W) (v : V) : Prop := ∃ F, Own G B H w v F
theorem Vw.grow {G : Gx} {B H H' : Hp} {w : W} {v : V} (h : Vw G B H w v) (g : Grow H H') : Vw G B H' w v := let ⟨F, o⟩ := h; ⟨F, o.mono (Le.refl _) fun a _ => g a⟩
section
variable {G : Gx} {σ : St} {H B : Hp} {S : Sl} {ts ts' : Tmp} {F : List Addr}
theorem OwnS.view {i : Nat} {w : W} {v : V} (h : OwnS G B H σ S F) (e : (S[i]?).join = some w) (ev : σ[i]? = some (some v)) : Vw G B H w v := by
  induction h generalizing i with
  | nil => simp at e
  | hole _ ih =>
    cases i with
    | zero => simp at e
    | succ i => exact ih (i := i) (by simpa using e) (by simpa using ev)
  | put h r ih =>
    cases i with
    | zero =>
      simp at e ev
      subst e ev
      exact ⟨_, h⟩
    | succ i => exact ih (i := i) (by simpa using e) (by simpa using ev)
theorem Sta.view {i : Nat} {w : W} {v : V} (s : Sta G σ H S ts B F) (e : (S[i]?).join = some w) (ev : σ[i]? = some (some v)) : Vw G B H w v := by
  obtain ⟨F1, F2, o1, o2, p⟩ := s.own
  exact o1.view e ev
theorem OwnT.mem {v : V} {w : W} : ∀ {ts : Tmp} {F : List Addr}, OwnT G B H ts F → (v, w) ∈ ts → Vw G B H w v
  | _, _, .cons h r, m => by
    rcases List.mem_cons.mp m with e | m
    · cases e; exact ⟨_, h⟩
    · exact OwnT.mem r m
theorem Sta.held {v : V} {w : W} (s : Sta G σ H S ts B F) (m : (v, w) ∈ ts) : Vw G B H w v := by
  obtain ⟨F1, F2, o1, o2, p⟩ := s.own
  exact o2.mem m
theorem Sta.opd {o : Opd} {v : V} {w : W} (s : Sta G σ H S ts B F) (m : ∀ x ∈ o.tmps v, x ∈ ts) (k : o.ok σ v) (e : o.get S = some w) : Vw G B H w v := by
  cases o with
  | tmp w' =>
    have e : some w' = some w := e
    cases e
    exact s.held (m _ (List.mem_cons_self ..))
  | «at» i => exact s.view e k
end
/-- what an operation gives -/
def New (G : Gx) (B H : Hp) (w : W) (Q : VK) : Prop := ∀ v H' B' Fw, Grow H H' → Le B B' → Sub B' H' → (∀ a o, B' a = some o → B a = some o ∨ ¬ Live H a) → Own G B' H' w v Fw → (∀ a ∈ Fw, ¬ Live H a) → (∀ a ∈ Fw, B' a = none) → Fw.Nodup → Q v H'
theorem New.old {G : Gx} {B H : Hp} {d : D} {v : V} {Q : VK} (h : New G B H (.fr d) Q) (s : Sub B H) (r : Rep G B d v) : Q v H := h v H B [] .refl (Le.refl _) s (fun _ _ h => .inl h) (.fr r) (fun _ h => by cases h) (fun _ h => by cases h) List.nodup_nil
/-- a new object is laid -/
theorem New.one {G : Gx} {B H : Hp} {w : W} {Q : VK} {p : Addr} {o : HO} (h : New G B H w Q) (s : Sub B H) (hp : H p = none) (ow : ∀ H', H' p = some o → Grow H H' → Own G B H' w (.ref p) [p]) : Q (.ref p) (upd H p o) :=
  h (.ref p) _ B [p] (.new hp) (Le.refl _) (s.grow (.new hp)) (fun _ _ h => .inl h) (ow _ upd_same (.new hp)) (fun a m => by rw [List.mem_singleton.mp m]; exact not_live hp) (fun a m => by rw [List.mem_singleton.mp m]; exact fresh_b s hp) (by simp)
/-- a new object is laid and settled -/
theorem New.set {G : Gx} {B H : Hp} {d : D} {Q : VK} {p : Addr} {o : HO} (h : New G B H (.fr d) Q) (s : Sub B H) (hp : H p = none) (ow : ∀ B', B' p = some o → Le B B' → Rep G B' d (.ref p)) (no : ∀ ps, o ≠ HO.tbl ps := by intro _ z; cases z) : Q (.ref p) (upd H p o) :=
  have hb := fresh_b s hp
  h (.ref p) _ (upd B p o) [] (.new hp) (Le.upd hb) ⟨fun a u e => by
    by_cases z : a = p
    · subst z; rw [upd_same] at e ⊢; exact .inl e
    · rw [upd_ne z] at e ⊢; exact s a u e, fun a ps e => by
    by_cases z : a = p
    · subst z; rw [upd_same] at e; exact no ps (Option.some.inj e)
    · rw [upd_ne z] at e; exact s.nt a ps e⟩ (fun a u e => by
    by_cases z : a = p
    · subst z; exact .inr (not_live hp)
    · rw [upd_ne z] at e; exact .inl e) (.fr (ow _ upd_same (Le.upd hb))) (fun _ h => by cases h) (fun _ h => by cases h) List.nodup_nil
section
variable {k : Kd α β} {G : Gx} {σ : St} {H B H1 : Hp} {F : List Addr} {Xw : WX} {Q : VK} {ts : Tmp}
/-- an operation's end, over W -/
theorem Want.new {B1 : Hp} {F1 : List Addr} {S : Sl} {w : W} (W1 : Want kW G σ H B F Xw Q (.ok w) S) (st : Sta G σ H1 S ts B1 F1) (c : Ch H B F H1 B1 F1) : New G B1 H1 w Q := fun v H' B' Fw g l sb fr o n nb nd => by
  obtain ⟨s2, c2⟩ := st.more g l sb fr o n nb nd
  obtain ⟨F3, s3, c3⟩ := Sta.drop (ts := [(v, w)]) s2
  exact W1 v H' B' F3 trivial s3 (c.trans (c2.trans c3))
end
end VD

set_option Elab.async false
set_option linter.all false
set_option maxRecDepth 100000
set_option maxHeartbeats 2000000
namespace VD
open PySem PySem.Spec PyProof.Rows L2

/-! ### data as the library's data -/
mutual
def D.py : D → Option PyData
  | .non => some .none
  | .bl b => some (.bool b)
  | .int i => some (.int i)
  | .str s => some (.str s)
  | .tup xs => (pyL xs).map .tuple
  | .lst xs => (pyL xs).map .list
  | .scr ns => some (.list (ns.map .int))
  | .exc => none
  | .dct _ => none
  | .obj _ _ => none
def pyL : List D → Option (List PyData)
  | [] => some []
  | d :: ds => match d.py, pyL ds with
    | some p, some ps => some (p :: ps)
    | _, _ => none
end
section
variable {G : Gx} {B H : Hp}
theorem dp_ints {K : PySem.W.Frag} {H : Hp} : ∀ ns : List Int, DpAll K H (ns.map V.int) (ns.map PyData.int)
  | [] => .nil
  | n :: ns => .cons (.int n) (dp_ints ns)
mutual
theorem Rep.dp (s : Sub B H) : ∀ {d : D} {v : V} {p : PyData}, Rep G B d v → d.py = some p → Dp G.K H v p
  | _, _, _, .non, e => by cases e; exact .non
  | _, _, _, .bl, e => by cases e; exact .bl _
  | _, _, _, .int, e => by cases e; exact .int _
  | _, _, _, .str, e => by cases e; exact .str _
  | .tup xs, _, p, .tup h r, e => by
    have e : (pyL xs).map PyData.tuple = some p := by simpa [D.py] using e
    obtain ⟨ps, e1, rfl⟩ := Option.map_eq_some_iff.mp e
    exact .tup (sqT_sub s h) (RepL.dp s r e1)
  | .lst xs, _, p, .lst h r, e => by
    have e : (pyL xs).map PyData.list = some p := by simpa [D.py] using e
    obtain ⟨ps, e1, rfl⟩ := Option.map_eq_some_iff.mp e
    exact .lst (sqL_sub s (SqL.of h)) (RepL.dp s r e1)
  | .scr ns, _, p, .scr h, e => by
    have e : some (PyData.list (ns.map .int)) = some p := by simpa [D.py] using e
    cases e
    exact .lst (sqL_sub s h) (dp_ints ns)
  | .dct _, _, _, .dct _ _, e => by simp [D.py] at e
  | .obj _ _, _, _, .obj _ _ _, e => by simp [D.py] at e
  | .exc, _, _, .exc _ _, e => by simp [D.py] at e
theorem RepL.dp (s : Sub B H) : ∀ {ds : List D} {vs : List V} {ps : List PyData}, RepL G B ds vs → pyL ds = some ps → DpAll G.K H vs ps
  | _, _, _, .nil, e => by simp [pyL] at e; subst e; exact .nil
  | d :: ds, _, ps, .cons h r, e => by
    unfold pyL at e
    cases e1 : d.py with
    | none => rw [e1] at e; simp at e
    | some p =>
      cases e2 : pyL ds with
      | none => rw [e1, e2] at e; simp at e
      | some qs =>
        rw [e1, e2] at e
        simp at e
        subst e
        exact .cons (Rep.dp s h e1) (RepL.dp s r e2)
end
mutual
theorem Own.dp (s : Sub B H) : ∀ {w : W} {v : V} {F : List Addr} {p : PyData}, Own G B H w v F → w.toD.py = some p → Dp G.K H v p
  | _, _, _, _, .fr r, e => r.dp s e
  | .tup xs, _, _, p, .tup h r, e => by
    have e : (pyL (toDL xs)).map PyData.tuple = some p := by simpa [W.toD, D.py] using e
    obtain ⟨ps, e1, rfl⟩ := Option.map_eq_some_iff.mp e
    exact .tup (SqT.of h) (OwnL.dp s r e1)
  | .lst xs, _, _, p, .lst h r, e => by
    have e : (pyL (toDL xs)).map PyData.list = some p := by simpa [W.toD, D.py] using e
    obtain ⟨ps, e1, rfl⟩ := Option.map_eq_some_iff.mp e
    exact .lst (SqL.of h) (OwnL.dp s r e1)
  | .dct _, _, _, _, .dct _ _, e => by simp [W.toD, D.py] at e
  | .obj _ _, _, _, _, .obj _ _ _, e => by simp [W.toD, D.py] at e
theorem OwnL.dp (s : Sub B H) : ∀ {ws : List W} {vs : List V} {F : List Addr} {ps : List PyData}, OwnL G B H ws vs F → pyL (toDL ws) = some ps → DpAll G.K H vs ps
  | _, _, _, _, .nil, e => by simp [toDL, pyL] at e; subst e; exact .nil
  | d :: ds, _, _, ps, .cons h r, e => by
    unfold toDL pyL at e
    cases e1 : d.toD.py with
    | none => rw [e1] at e; simp at e
    | some p =>
      cases e2 : pyL (toDL ds) with
      | none => rw [e1, e2] at e; simp at e
      | some qs =>
        rw [e1, e2] at e
        simp at e
        subst e
        exact .cons (Own.dp s h e1) (OwnL.dp s r e2)
end
/-! ### looking into a value -/
/-- items that are all settled -/
def frL : List W → Option (List D)
  | [] => some []
  | .fr d :: ws => (frL ws).map (d :: ·)
  | _ :: _ => none
def W.asL : W → Option (List D)
  | .fr (.lst ds) => some ds
  | .lst ws => frL ws
  | _ => none
def W.asT : W → Option (List D)
  | .fr (.tup ds) => some ds
  | .tup ws => frL ws
  | _ => none
/-- a list that is only read -/
def W.asLr : W → Option (List D)
  | .fr (.scr ns) => some (ns.map .int)
  | w => w.asL
theorem frL_rep : ∀ {ws : List W} {ds : List D} {vs : List V} {F : List Addr}, frL ws = some ds → OwnL G B H ws vs F → RepL G B ds vs
  | [], _, _, _, e, .nil => by simp [frL] at e; subst e; exact .nil
  | .fr d :: ws, ds, _, _, e, .cons h r => by
    have e : (frL ws).map (d :: ·) = some ds := by simpa [frL] using e
    obtain ⟨ds', e1, rfl⟩ := Option.map_eq_some_iff.mp e
    cases h with
    | fr h => exact .cons h (frL_rep e1 r)
  | .lst _ :: ws, _, _, _, e, _ => by simp [frL] at e
  | .tup _ :: ws, _, _, _, e, _ => by simp [frL] at e
  | .dct _ :: ws, _, _, _, e, _ => by simp [frL] at e
  | .obj _ _ :: ws, _, _, _, e, _ => by simp [frL] at e
theorem rep_ints : ∀ ns : List Int, RepL G B (ns.map D.int) (ns.map V.int)
  | [] => .nil
  | n :: ns => .cons .int (rep_ints ns)
theorem Vw.lst {w : W} {v : V} {ds : List D} (h : Vw G B H w v) (s : Sub B H) (e : w.asL = some ds) : ∃ a vs, v = .ref a ∧ H a = some (.lst vs) ∧ RepL G B ds vs := by
  obtain ⟨F, o⟩ := h
  cases o with
  | fr r =>
    cases r with
    | lst h r =>
      have e : some _ = some ds := e
      cases e
      rcases s _ _ h with q | ⟨q, _⟩
      · exact ⟨_, _, rfl, q, r⟩
      · exact q.elim
    | _ => simp [W.asL] at e
  | lst h r => exact ⟨_, _, rfl, h, frL_rep e r⟩
  | _ => simp [W.asL] at e
theorem Vw.lstr {w : W} {v : V} {ds : List D} (h : Vw G B H w v) (s : Sub B H) (e : w.asLr = some ds) : ∃ a vs, v = .ref a ∧ SqL G.K H a vs ∧ RepL G B ds vs := by
  unfold W.asLr at e
  split at e
  · cases e
    obtain ⟨F, o⟩ := h
    cases o with
    | fr r =>
      cases r with
      | scr h => exact ⟨_, _, rfl, sqL_sub s h, rep_ints _⟩
  · obtain ⟨a, vs, rfl, h1, h2⟩ := h.lst s e
    exact ⟨a, vs, rfl, SqL.of h1, h2⟩
theorem Vw.tup {w : W} {v : V} {ds : List D} (h : Vw G B H w v) (s : Sub B H) (e : w.asT = some ds) : ∃ a vs, v = .ref a ∧ SqT G.K H a vs ∧ RepL G B ds vs := by
  obtain ⟨F, o⟩ := h
  cases o with
  | fr r =>
    cases r with
    | tup h r =>
      have e : some _ = some ds := e
      cases e
      exact ⟨_, _, rfl, sqT_sub s h, r⟩
    | _ => simp [W.asT] at e
  | tup h r => exact ⟨_, _, rfl, SqT.of h, frL_rep e r⟩
  | _ => simp [W.asT] at e
theorem Vw.int {i : Int} {v : V} (h : Vw G B H (.fr (.int i)) v) : v = .int i := by
  obtain ⟨F, o⟩ := h
  cases o with
  | fr r => cases r; rfl
theorem Vw.str {i : Str} {v : V} (h : Vw G B H (.fr (.str i)) v) : v = .str i := by
  obtain ⟨F, o⟩ := h
  cases o with
  | fr r => cases r; rfl
theorem Vw.bl {i : Bool} {v : V} (h : Vw G B H (.fr (.bl i)) v) : v = .bl i := by
  obtain ⟨F, o⟩ := h
  cases o with
  | fr r => cases r; rfl
theorem Vw.non {v : V} (h : Vw G B H (.fr .non) v) : v = .non := by
  obtain ⟨F, o⟩ := h
  cases o with
  | fr r => cases r; rfl
theorem Vw.rep {d : D} {v : V} (h : Vw G B H (.fr d) v) : Rep G B d v := by
  obtain ⟨F, o⟩ := h
  cases o with
  | fr r => exact r
theorem RepL.length : ∀ {ds : List D} {vs : List V}, RepL G B ds vs → vs.length = ds.length
  | _, _, .nil => rfl
  | _, _, .cons _ r => by rw [List.length_cons, List.length_cons, RepL.length r]
theorem RepL.app : ∀ {ds es : List D} {vs us : List V}, RepL G B ds vs → RepL G B es us → RepL G B (ds ++ es) (vs ++ us)
  | _, _, _, _, .nil, h => h
  | _, _, _, _, .cons h r, h' => .cons h (RepL.app r h')
theorem RepL.get : ∀ {ds : List D} {vs : List V} {i : Nat} {d : D}, RepL G B ds vs → ds[i]? = some d → ∃ v, vs[i]? = some v ∧ Rep G B d v
  | _, _, _, _, .nil, e => by simp at e
  | _, _, 0, _, .cons h _, e => by simp at e; subst e; exact ⟨_, rfl, h⟩
  | _, _, i + 1, _, .cons _ r, e => by
    obtain ⟨v, h1, h2⟩ := RepL.get (i := i) r (by simpa using e)
    exact ⟨v, by simpa using h1, h2⟩
theorem RepL.get' : ∀ {ds : List D} {vs : List V} {i : Nat} {v : V}, RepL G B ds vs → vs[i]? = some v → ∃ d, ds[i]? = some d ∧ Rep G B d v
  | _, _, _, _, .nil, e => by simp at e
  | _, _, 0, _, .cons h _, e => by simp at e; subst e; exact ⟨_, rfl, h⟩
  | _, _, i + 1, _, .cons _ r, e => by
    obtain ⟨v, h1, h2⟩ := RepL.get' (i := i) r (by simpa using e)
    exact ⟨v, by simpa using h1, h2⟩
theorem RepL.take : ∀ {ds : List D} {vs : List V} (n : Nat), RepL G B ds vs → RepL G B (ds.take n) (vs.take n)
  | _, _, 0, _ => by rw [List.take_zero, List.take_zero]; exact .nil
  | _, _, _ + 1, .nil => .nil
  | _, _, n + 1, .cons h r => .cons h (RepL.take n r)
theorem RepL.drop : ∀ {ds : List D} {vs : List V} (n : Nat), RepL G B ds vs → RepL G B (ds.drop n) (vs.drop n)
  | _, _, 0, h => h
  | _, _, _ + 1, .nil => .nil
  | _, _, n + 1, .cons _ r => RepL.drop n r
theorem RepL.own : ∀ {ds : List D} {vs : List V}, RepL G B ds vs → OwnL G B H (ds.map .fr) vs []
  | _, _, .nil => .nil
  | _, _, .cons h r => .cons (F := []) (F' := []) (.fr h) (RepL.own r)
/-- a new list, a new tuple of settled items -/
def newL (ds : List D) : W := .lst (ds.map .fr)
theorem New.lst {ds : List D} {vs : List V} {Q : VK} (h : New G B H (newL ds) Q) (s : Sub B H) (r : RepL G B ds vs) : ∀ p, H p = none → Q (.ref p) (upd H p (.lst vs)) := fun p hp =>
  h.one s hp fun H' e _ => .lst e (r.own (H := H'))
theorem New.tup {ds : List D} {vs : List V} {Q : VK} (h : New G B H (.fr (.tup ds)) Q) (s : Sub B H) (r : RepL G B ds vs) : ∀ p, H p = none → Q (.ref p) (upd H p (.tup vs)) := fun p hp =>
  h.set s hp fun B' e l => .tup (SqT.of e) (r.mono l)
theorem New.int {i : Int} {Q : VK} (h : New G B H (.fr (.int i)) Q) (s : Sub B H) : Q (.int i) H := h.old s .int
theorem New.bl {i : Bool} {Q : VK} (h : New G B H (.fr (.bl i)) Q) (s : Sub B H) : Q (.bl i) H := h.old s .bl
theorem New.str {i : Str} {Q : VK} (h : New G B H (.fr (.str i)) Q) (s : Sub B H) : Q (.str i) H := h.old s .str
theorem New.non {Q : VK} (h : New G B H (.fr .non) Q) (s : Sub B H) : Q .non H := h.old s .non
end
/-! ### operators on values -/
def Op2 (G : Gx) (r : R2) (rv : W → W → Option W) : Prop := ∀ {B H : Hp} {x y w : W} {v u : V} {Q : VK}, Sub B H → Vw G B H x v → Vw G B H y u → rv x y = some w → New G B H w Q → r v u H Q
def orO (f g : W → W → Option W) : W → W → Option W := fun x y => match f x y with
  | some w => some w
  | none => g x y
theorem Op2.or {G : Gx} {r r' : R2} {f g : W → W → Option W} (a : Op2 G r f) (b : Op2 G r' g) : Op2 G (fun x y H Q => r x y H Q ∨ r' x y H Q) (orO f g) := fun {B H x y w v u Q} s vx vy e n => by
  unfold orO at e
  split at e
  · rename_i w' e'
    cases e
    exact .inl (a s vx vy e' n)
  · exact .inr (b s vx vy e n)
/-- two ints -/
def intO (C : Int → Int → Bool) (g : Int → Int → D) : W → W → Option W
  | .fr (.int i), .fr (.int j) => if C i j then some (.fr (g i j)) else none
  | _, _ => none
theorem intO_inv {C : Int → Int → Bool} {g : Int → Int → D} {x y w : W} (e : intO C g x y = some w) : ∃ i j, x = .fr (.int i) ∧ y = .fr (.int j) ∧ C i j = true ∧ w = .fr (g i j) := by
  unfold intO at e
  split at e
  · split at e
    · cases e; exact ⟨_, _, rfl, rfl, by assumption, rfl⟩
    · cases e
  · cases e
def strO (C : Str → Str → Bool) (g : Str → Str → D) : W → W → Option W
  | .fr (.str i), .fr (.str j) => if C i j then some (.fr (g i j)) else none
  | _, _ => none
theorem strO_inv {C : Str → Str → Bool} {g : Str → Str → D} {x y w : W} (e : strO C g x y = some w) : ∃ i j, x = .fr (.str i) ∧ y = .fr (.str j) ∧ C i j = true ∧ w = .fr (g i j) := by
  unfold strO at e
  split at e
  · split at e
    · cases e; exact ⟨_, _, rfl, rfl, by assumption, rfl⟩
    · cases e
  · cases e
def catL : W → W → Option W := fun x y => match x.asL, y.asL with
  | some ds, some es => if ds.length + es.length ≤ sizeLine then some (newL (ds ++ es)) else none
  | _, _ => none
theorem catL_inv {x y w : W} (e : catL x y = some w) : ∃ ds es, x.asL = some ds ∧ y.asL = some es ∧ ds.length + es.length ≤ sizeLine ∧ w = newL (ds ++ es) := by
  unfold catL at e
  split at e
  · split at e
    · cases e; exact ⟨_, _, by assumption, by assumption, by assumption, rfl⟩
    · cases e
  · cases e
def catT : W → W → Option W := fun x y => match x, y with
  | .fr (.tup ds), .fr (.tup es) => if ds.length + es.length ≤ sizeLine then some (.fr (.tup (ds ++ es))) else none
  | _, _ => none
theorem catT_inv {x y w : W} (e : catT x y = some w) : ∃ ds es, x = .fr (.tup ds) ∧ y = .fr (.tup es) ∧ ds.length + es.length ≤ sizeLine ∧ w = .fr (.tup (ds ++ es)) := by
  unfold catT at e
  split at e
  · split at e
    · cases e; exact ⟨_, _, rfl, rfl, by assumption, rfl⟩
    · cases e
  · cases e
section
variable {G : Gx}
theorem op2I0 {g : Int → Int → V} {d : Int → Int → D} (h : ∀ (B : Hp) i j, Rep G B (d i j) (g i j)) : Op2 G (rI0 g) (intO (fun _ _ => true) d) := fun {B H x y w v u Q} s vx vy e n => by
  obtain ⟨i, j, rfl, rfl, _, rfl⟩ := intO_inv e
  exact ⟨i, j, vx.int, vy.int, n.old s (h B i j)⟩
theorem op2I {C : Int → Int → Prop} {C' : Int → Int → Bool} {g : Int → Int → V} {d : Int → Int → D} (hc : ∀ i j, C' i j = true → C i j) (h : ∀ (B : Hp) i j, Rep G B (d i j) (g i j)) : Op2 G (rI C g) (intO C' d) := fun {B H x y w v u Q} s vx vy e n => by
  obtain ⟨i, j, rfl, rfl, c, rfl⟩ := intO_inv e
  exact ⟨i, j, vx.int, vy.int, hc i j c, n.old s (h B i j)⟩
def rAddS : R2 := fun x y H Q => ∃ i j, x = .str i ∧ y = .str j ∧ i.length + j.length ≤ sizeLine ∧ Q (.str (i ++ j)) H
theorem op2AddS : Op2 G rAddS (strO (fun a b => decide (a.length + b.length ≤ sizeLine)) fun a b => .str (a ++ b)) := fun {B H x y w v u Q} s vx vy e n => by
  obtain ⟨i, j, rfl, rfl, c, rfl⟩ := strO_inv e
  exact ⟨i, j, vx.str, vy.str, of_decide_eq_true c, n.str s⟩
theorem op2CatL : Op2 G rCat catL := fun {B H x y w v u Q} s vx vy e n => by
  obtain ⟨ds, es, e1, e2, hl, rfl⟩ := catL_inv e
  obtain ⟨a, vs, rfl, h1, r1⟩ := vx.lst s e1
  obtain ⟨b, us, rfl, h2, r2⟩ := vy.lst s e2
  exact ⟨a, b, vs, us, rfl, rfl, h1, h2, by rw [r1.length, r2.length]; exact hl, n.lst s (r1.app r2)⟩
theorem op2CatT : Op2 G (rCatA G.K) catT := fun {B H x y w v u Q} s vx vy e n => by
  obtain ⟨ds, es, rfl, rfl, hl, rfl⟩ := catT_inv e
  have t1 := vx.rep
  have t2 := vy.rep
  cases t1 with
  | @tup a _ vs h1 r1 =>
    cases t2 with
    | @tup b _ us h2 r2 =>
      refine ⟨a, b, vs, us, rfl, rfl, sqT_sub s h1, sqT_sub s h2, by rw [r1.length, r2.length]; exact hl, fun z => ?_, fun _ z => ?_, fun _ _ => n.tup s (r1.app r2)⟩
      · subst z
        cases r1
        exact n.old s (.tup h2 r2)
      · subst z
        cases r2
        rw [List.append_nil] at n
        exact n.old s (.tup h1 r1)
end
def rvAdd : W → W → Option W := orO (intO (fun _ _ => true) fun i j => .int (i + j)) (orO (strO (fun a b => decide (a.length + b.length ≤ sizeLine)) fun a b => .str (a ++ b)) (orO catL catT))
def rAddU (K : PySem.W.Frag) : R2 := fun x y H Q => rI0 (fun i j => .int (i + j)) x y H Q ∨ rAddS x y H Q ∨ rCat x y H Q ∨ rCatA K x y H Q
theorem op2Add {G : Gx} : Op2 G (rAddU G.K) rvAdd := Op2.or (op2I0 fun _ _ _ => .int) (Op2.or op2AddS (Op2.or op2CatL op2CatT))
theorem opAddU {X : Cx} : OpR X (binaryOp .Add) (rAddU X.K) := op_add.or (OpR.or (r := rAddS) op_add_str (op_cat.or op_catA))
def rvSub : W → W → Option W := intO (fun _ _ => true) fun i j => .int (i - j)
def ok64 (i j : Int) : Bool := (decide (-(2 ^ 64) < i) && decide (i < 2 ^ 64)) || (decide (-(2 ^ 64) < j) && decide (j < 2 ^ 64))
theorem ok64_c {i j : Int} (h : ok64 i j = true) : CMul i j := by
  unfold ok64 at h
  simp only [Bool.or_eq_true, Bool.and_eq_true, decide_eq_true_eq] at h
  exact h
/-- a list, several times -/
def repL : W → W → Option W := fun x y => match x.asL, y with
  | some ds, .fr (.int k) => if -(2 ^ 63) ≤ k ∧ k < 2 ^ 63 ∧ ds.length * k.toNat ≤ sizeLine then some (newL (List.replicate k.toNat ds).flatten) else none
  | _, _ => none
theorem repL_inv {x y w : W} (e : repL x y = some w) : ∃ ds k, x.asL = some ds ∧ y = .fr (.int k) ∧ (-(2 ^ 63) ≤ k ∧ k < 2 ^ 63 ∧ ds.length * k.toNat ≤ sizeLine) ∧ w = newL (List.replicate k.toNat ds).flatten := by
  unfold repL at e
  split at e
  · split at e
    · cases e; exact ⟨_, _, by assumption, rfl, by assumption, rfl⟩
    · cases e
  · cases e
theorem RepL.rep {G : Gx} {B : Hp} {ds : List D} {vs : List V} (r : RepL G B ds vs) : ∀ n, RepL G B (List.replicate n ds).flatten (List.replicate n vs).flatten
  | 0 => .nil
  | n + 1 => by rw [List.replicate_succ, List.replicate_succ, List.flatten_cons, List.flatten_cons]; exact r.app (RepL.rep r n)
theorem op2RepL {G : Gx} : Op2 G rRep repL := fun {B H x y w v u Q} s vx vy e n => by
  obtain ⟨ds, k, e1, rfl, ⟨h1, h2, h3⟩, rfl⟩ := repL_inv e
  obtain ⟨a, vs, rfl, h4, r1⟩ := vx.lst s e1
  exact ⟨a, k, vs, rfl, vy.int, h4, h1, h2, by rw [r1.length]; exact h3, n.lst s (r1.rep _)⟩
/-- a bound of four hundred bits -/
def ok400 (i : Int) : Bool := decide (i.natAbs < 2 ^ 400)
def okMul (i j : Int) : Bool := ok64 i j || (ok400 i && ok400 j)
def rMulI : R2 := fun x y H Q => rI CMul (fun i j => .int (i * j)) x y H Q ∨ rI CMulW (fun i j => .int (i * j)) x y H Q
theorem op2MulI {G : Gx} : Op2 G rMulI (intO okMul fun i j => .int (i * j)) := fun {B H x y w v u Q} s vx vy e n => by
  obtain ⟨i, j, rfl, rfl, c, rfl⟩ := intO_inv e
  unfold okMul at c
  rcases Bool.or_eq_true_iff.mp c with c | c
  · exact .inl ⟨i, j, vx.int, vy.int, ok64_c c, n.old s .int⟩
  · have c := Bool.and_eq_true_iff.mp c
    exact .inr ⟨i, j, vx.int, vy.int, wide_mul (of_decide_eq_true c.1) (of_decide_eq_true c.2) (by decide) (by decide) (by decide), n.old s .int⟩
def rvMul : W → W → Option W := orO (intO okMul fun i j => .int (i * j)) repL
def rMulU : R2 := fun x y H Q => rMulI x y H Q ∨ rRep x y H Q
theorem op2Mul {G : Gx} : Op2 G rMulU rvMul := Op2.or op2MulI op2RepL
theorem opMulU {X : Cx} : OpR X (binaryOp .Mult) rMulU := OpR.or (OpR.or op_mul op_mulW) op_rep
def rvMod : W → W → Option W := intO (fun _ j => decide (0 < j)) fun i j => .int (i % j)
def rvDiv : W → W → Option W := intO (fun _ j => decide (0 < j) && ok400 j) fun i j => .int (i / j)
def rvPow : W → W → Option W := intO (fun i j => decide (0 ≤ j) && (decide (j ≤ 1000000) && decide (i.natAbs < 2 ^ 64))) fun i j => .int (i ^ j.toNat)
theorem op2Sub {G : Gx} : Op2 G (rI0 fun i j => .int (i - j)) rvSub := op2I0 fun _ _ _ => .int
theorem op2Mod {G : Gx} : Op2 G (rI (fun _ j => 0 < j) fun i j => .int (i % j)) rvMod := op2I (fun _ _ h => of_decide_eq_true h) fun _ _ _ => .int
theorem op2Div {G : Gx} : Op2 G (rI CDivW fun i j => .int (i / j)) rvDiv := op2I (fun _ j h => wide_div (of_decide_eq_true (Bool.and_eq_true_iff.mp h).1) (of_decide_eq_true (Bool.and_eq_true_iff.mp h).2) (by decide) (by decide)) fun _ _ _ => .int
theorem op2Pow {G : Gx} : Op2 G (rI CPow fun i j => .int (i ^ j.toNat)) rvPow := op2I (fun i j h => by simpa [CPow] using h) fun _ _ _ => .int
/-! ### comparisons on values -/
def cmpI (g : Int → Int → Bool) : W → W → Option W := intO (fun _ _ => true) fun i j => .bl (g i j)
def rvLe : W → W → Option W := cmpI fun i j => decide (i ≤ j)
def rvGt : W → W → Option W := cmpI fun i j => decide (j < i)
def rvGe : W → W → Option W := cmpI fun i j => decide (j ≤ i)
theorem op2Le {G : Gx} : Op2 G (rI0 fun i j => .bl (decide (i ≤ j))) rvLe := op2I0 fun _ _ _ => .bl
theorem op2Gt {G : Gx} : Op2 G (rI0 fun i j => .bl (decide (j < i))) rvGt := op2I0 fun _ _ _ => .bl
theorem op2Ge {G : Gx} : Op2 G (rI0 fun i j => .bl (decide (j ≤ i))) rvGe := op2I0 fun _ _ _ => .bl
/-- == of data -/
def eqD (x y : D) : Option Bool := match x.py, y.py with
  | some p, some q => if SeqAt.shaped p && SeqAt.shaped q then some (PyData.eqv p q) else none
  | _, _ => none
theorem eqD_inv {x y : D} {b : Bool} (e : eqD x y = some b) : ∃ p q, x.py = some p ∧ y.py = some q ∧ SeqAt.shaped p = true ∧ SeqAt.shaped q = true ∧ b = PyData.eqv p q := by
  unfold eqD at e
  split at e
  · split at e
    · rename_i h
      cases e
      exact ⟨_, _, by assumption, by assumption, (Bool.and_eq_true_iff.mp h).1, (Bool.and_eq_true_iff.mp h).2, rfl⟩
    · cases e
  · cases e
def rvEq : W → W → Option W := fun x y => (eqD x.toD y.toD).map fun b => .fr (.bl b)
def rvNe : W → W → Option W := fun x y => (eqD x.toD y.toD).map fun b => .fr (.bl (!b))
theorem op2Eq {G : Gx} : Op2 G (rEqD G.K) rvEq := fun {B H x y w v u Q} s ⟨F1, o1⟩ ⟨F2, o2⟩ e n => by
  obtain ⟨b, e', rfl⟩ := Option.map_eq_some_iff.mp e
  obtain ⟨p, q, e1, e2, s1, s2, rfl⟩ := eqD_inv e'
  exact ⟨p, q, o1.dp s e1, o2.dp s e2, s1, s2, n.bl s⟩
theorem op2Ne {G : Gx} : Op2 G (rNeD G.K) rvNe := fun {B H x y w v u Q} s ⟨F1, o1⟩ ⟨F2, o2⟩ e n => by
  obtain ⟨b, e', rfl⟩ := Option.map_eq_some_iff.mp e
  obtain ⟨p, q, e1, e2, s1, s2, rfl⟩ := eqD_inv e'
  exact ⟨p, q, o1.dp s e1, o2.dp s e2, s1, s2, n.bl s⟩
/-- is None -/
def W.isNon : W → Bool
  | .fr .non => true
  | _ => false
theorem Vw.isNon {G : Gx} {B H : Hp} {w : W} {v : V} (h : Vw G B H w v) : decide (v = .non) = w.isNon := by
  obtain ⟨F, o⟩ := h
  cases o with
  | fr r => cases r <;> simp [W.isNon]
  | _ => simp [W.isNon]
def rvIs : W → W → Option W := fun x y => if y.isNon then some (.fr (.bl x.isNon)) else none
def rvIsNot : W → W → Option W := fun x y => if y.isNon then some (.fr (.bl (!x.isNon))) else none
theorem isNon_v {G : Gx} {B H : Hp} {w : W} {v : V} (h : Vw G B H w v) (e : w.isNon = true) : v = .non := of_decide_eq_true (h.isNon.trans e)
theorem op2Is {G : Gx} : Op2 G (fun x y H Q => y = .non ∧ Q (.bl (decide (x = .non))) H) rvIs := fun {B H x y w v u Q} s vx vy e n => by
  unfold rvIs at e
  split at e
  · cases e
    refine ⟨isNon_v vy (by assumption), ?_⟩
    rw [vx.isNon]; exact n.bl s
  · cases e
theorem op2IsNot {G : Gx} : Op2 G (fun x y H Q => y = .non ∧ Q (.bl (!decide (x = .non))) H) rvIsNot := fun {B H x y w v u Q} s vx vy e n => by
  unfold rvIsNot at e
  split at e
  · cases e
    refine ⟨isNon_v vy (by assumption), ?_⟩
    rw [vx.isNon]; exact n.bl s
  · cases e
/-- in: a sign in a text, an item in a list or tuple, a key in a dict -/
def inS : Str → Str → Bool := fun x y => match x.cps.toList with
  | [c] => decide (c ∈ y.cps.toList)
  | _ => !(Builtin.Str.occurrences y x 0 y.length 1).isEmpty
end VD

set_option Elab.async false
set_option linter.all false
set_option maxRecDepth 100000
set_option maxHeartbeats 2000000
namespace VD
open PySem PySem.Spec PyProof.Rows L2

section
variable {α β : Type} {k : Kd α β} {G : Gx} {σ : St} {H H1 B : Hp} {F : List Addr} {Xw : WX} {Q Q' : β → Hp → Prop} {ts : Tmp}
theorem rdG.mono {m : M α} (h : rdG k G σ H Xw Q m) (i : ∀ b H, Q b H → Q' b H) : rdG k G σ H Xw Q' m := by
  obtain ⟨S, B, F, o, S', st, e, w⟩ := h
  refine ⟨S, B, F, o, S', st, e, ?_⟩
  cases o with
  | ok a => exact fun b H' B' F' ok st' c => i b H' (w b H' B' F' ok st' c)
  | ex c => exact w
end
/-- what operands show when they are used -/
def getL (S : Sl) : List Opd → Option (List W)
  | [] => some []
  | o :: os => match o.get S, getL S os with
    | some w, some ws => some (w :: ws)
    | _, _ => none
inductive VwL (G : Gx) (B H : Hp) : List W → List V → Prop
  | nil : VwL G B H [] []
  | cons {w : W} {v : V} {ws : List W} {vs : List V} : Vw G B H w v → VwL G B H ws vs → VwL G B H (w :: ws) (v :: vs)
section
variable {G : Gx} {σ : St} {H B : Hp} {S : Sl} {ts : Tmp} {F : List Addr}
theorem Sta.opds (s : Sta G σ H S ts B F) : ∀ {os : List Opd} {vs : List V} {ws : List W}, (∀ x ∈ tmpsL os vs, x ∈ ts) → OkL σ os vs → getL S os = some ws → VwL G B H ws vs
  | _, _, _, _, .nil, e => by cases e; exact .nil
  | o :: os, v :: vs, ws, m, .cons k r, e => by
    unfold getL at e
    split at e
    · rename_i w ws' e1 e2
      cases e
      exact .cons (s.opd (fun x h => m x (List.mem_append_right _ h)) k e1) (Sta.opds s (fun x h => m x (List.mem_append_left _ h)) r e2)
    · cases e
end
theorem frL_vw {G : Gx} {B H : Hp} : ∀ {ws : List W} {vs : List V} {ds : List D}, VwL G B H ws vs → frL ws = some ds → RepL G B ds vs
  | _, _, _, .nil, e => by simp [frL] at e; subst e; exact .nil
  | w :: ws, _, ds, .cons h r, e => by
    cases w with
    | fr d =>
      have e : (frL ws).map (d :: ·) = some ds := by simpa [frL] using e
      obtain ⟨ds', e5, rfl⟩ := Option.map_eq_some_iff.mp e
      exact .cons h.rep (frL_vw r e5)
    | _ => simp [frL] at e
/-- operands that are all held -/
def tmpL : List Opd → Option (List W)
  | [] => some []
  | .tmp w :: os => (tmpL os).map (w :: ·)
  | _ :: _ => none
theorem tmpL_own {G : Gx} {B H : Hp} {σ : St} : ∀ {os : List Opd} {vs : List V} {ws : List W} {F : List Addr}, OkL σ os vs → tmpL os = some ws → OwnT G B H (tmpsL os vs) F → ∃ F', OwnL G B H ws vs F' ∧ F.Perm F'
  | _, _, _, _, .nil, e, o => by
    cases e
    cases o
    exact ⟨[], .nil, .refl _⟩
  | o :: os, v :: vs, ws, F, .cons k r, e, ow => by
    cases o with
    | tmp w =>
      have e : (tmpL os).map (w :: ·) = some ws := by simpa [tmpL] using e
      obtain ⟨ws', e1, rfl⟩ := Option.map_eq_some_iff.mp e
      have ow : OwnT G B H (tmpsL os vs ++ [(v, w)]) F := ow
      obtain ⟨F3, o3, p3⟩ := ow.turn (ts' := (v, w) :: tmpsL os vs) (by simpa using (List.perm_append_comm (l₁ := tmpsL os vs) (l₂ := [(v, w)])))
      cases o3 with
      | @cons _ _ _ Fa Fb h q =>
        obtain ⟨F4, o4, p4⟩ := tmpL_own r e1 q
        exact ⟨Fa ++ F4, .cons h o4, p3.trans (p4.append_left _)⟩
    | «at» i => simp [tmpL] at e
/-! ### expressions -/
def mVar (i : Nat) : M W := fun S => match (S[i]?).join with
  | some w => some (.ok (.fr w.toD), S.set i (some (.fr w.toD)))
  | none => none
def mSlot (i : Nat) : M Opd := fun S => match (S[i]?).join with
  | some _ => some (.ok (.at i), S)
  | none => none
def mTmp (f : M W) : M Opd := bindM f fun w => pureM (.tmp w)
def mOp2 (rv : W → W → Option W) (f g : M Opd) : M W := bindM f fun a => bindM g fun b => fun S => match a.get S, b.get S with
  | some x, some y => (rv x y).map fun w => (.ok w, S)
  | _, _ => none
def mNil : M (List Opd) := pureM []
def mCons (f : M Opd) (g : M (List Opd)) : M (List Opd) := bindM f fun o => bindM g fun os => pureM (o :: os)
def mCall (rv : List W → Option W) (f : M (List Opd)) : M W := bindM f fun os => fun S => match getL S os with
  | some ws => (rv ws).map fun w => (.ok w, S)
  | none => none
/-- a builtin type's method that changes nothing -/
def mMeth (rv : W → List W → Option W) (f : M Opd) (g : M (List Opd)) : M W := bindM f fun a => bindM g fun os => fun S => match a.get S, getL S os with
  | some x, some ws => (rv x ws).map fun w => (.ok w, S)
  | _, _ => none
structure CallW (G : Gx) (r : List V → Hp → VK → Prop) (rv : List W → Option W) : Prop where
  run : ∀ {B H : Hp} {ws : List W} {vs : List V} {w : W} {Q : VK}, Sub B H → VwL G B H ws vs → rv ws = some w → New G B H w Q → r vs H Q
structure MethW (G : Gx) (T : String) (r : V → List V → Hp → VK → Prop) (rv : W → List W → Option W) : Prop where
  ty : ∀ {B H : Hp} {x : W} {v : V} {ws : List W} {w : W}, Sub B H → Vw G B H x v → rv x ws = some w → tyV G.K T v H
  run : ∀ {B H : Hp} {x : W} {v : V} {ws : List W} {vs : List V} {w : W} {Q : VK}, Sub B H → Vw G B H x v → VwL G B H ws vs → rv x ws = some w → New G B H w Q → r v vs H Q
section
variable {T : Tx} {X : Cx} {Xw : WX} {pos : Pos}
theorem slot_some {S : Sl} {i : Nat} {w : W} (e : (S[i]?).join = some w) : S[i]? = some (some w) := by
  cases q : S[i]? with
  | none => rw [q] at e; cases e
  | some o =>
    rw [q] at e
    have e : o = some w := e
    rw [e]
theorem pv_var (i : Nat) {x : Str} (hN : X.N[i]? = some x := by rfl) (hv : Vis X.env.scope x := by first | exact Or.inl rfl | exact Or.inr (Or.inl rfl) | exact Or.inr (Or.inr rfl)) (hd : (x == ("__debug__" : Str)) = false := by decide)
    (hcd : (x == ("__classdict__" : Str)) = false := by decide) : PV T X Xw (.Name x pos) (mVar i) :=
  peImp (pe_var hN hv hd hcd) fun σ H Q ⟨S, B, F, o, S', st, e, w⟩ => by
    unfold mVar at e
    split at e
    · rename_i w0 e0
      cases e
      have es := slot_some e0
      have hi : i < S.length := (List.getElem?_eq_some_iff.mp es).1
      obtain ⟨v, ev, p⟩ := st.park es
      obtain ⟨B', F', p2, c⟩ := p.settle
      have r : Rep (gx X T) B' w0.toD v := (p2.held (List.mem_cons_self ..)).rep
      have p3 := p2.unpark (i := i) (by simp [hi]) ev
      rw [List.set_set] at p3
      exact ⟨v, ev, w v H B' F' trivial (p3.old r) c⟩
    · cases e
theorem po_slot (i : Nat) {x : Str} (hN : X.N[i]? = some x := by rfl) (hv : Vis X.env.scope x := by first | exact Or.inl rfl | exact Or.inr (Or.inl rfl) | exact Or.inr (Or.inr rfl)) (hd : (x == ("__debug__" : Str)) = false := by decide)
    (hcd : (x == ("__classdict__" : Str)) = false := by decide) : PO T X Xw (.Name x pos) (mSlot i) :=
  peImp (pe_var hN hv hd hcd) fun σ H Q ⟨S, B, F, o, S', st, e, w⟩ => by
    unfold mSlot at e
    split at e
    · rename_i w0 e0
      cases e
      obtain ⟨v, ev, p⟩ := st.park (slot_some e0)
      exact ⟨v, ev, w v H B F ev st .refl⟩
    · cases e
theorem pv_const {e : Expr} {v : V} {d : D} (h : PE X e (tC v)) (r : ∀ B, Rep (gx X T) B d v) : PV T X Xw e (pureM (.fr d)) :=
  peImp h fun σ H Q ⟨S, B, F, o, S', st, e, w⟩ => by
    cases e
    exact w v H B F trivial (st.old (r B)) .refl
theorem pv_int {i : Int} {j} : PV T X Xw (.Constant (.int i) j pos) (pureM (.fr (.int i))) := pv_const pe_int fun _ => .int
theorem pv_bl {i : Bool} {j} : PV T X Xw (.Constant (.bool i) j pos) (pureM (.fr (.bl i))) := pv_const pe_bl fun _ => .bl
theorem pv_str {i : Str} {j} : PV T X Xw (.Constant (.str i) j pos) (pureM (.fr (.str i))) := pv_const pe_str fun _ => .str
theorem pv_non {j} : PV T X Xw (.Constant .none j pos) (pureM (.fr .non)) := pv_const pe_non fun _ => .non
/-- a module's constant: x holds u, u is d -/
theorem pv_glob {x : Str} {v : V} {u : Value} {d : D} (hg : Gl X x) (hm : X.mg x = some u) (r : RelV v u) (rd : ∀ B, Rep (gx X T) B d v) (hd : (x == ("__debug__" : Str)) = false := by decide) : PV T X Xw (.Name x pos) (pureM (.fr d)) := pv_const (pe_glob hg hm r hd) rd
theorem po_of {e : Expr} {f : M W} (h : PV T X Xw e f) : PO T X Xw e (mTmp f) :=
  peImp h fun σ H Q h => by
    obtain ⟨B, F, R⟩ := h.start
    refine (R.step (k1 := kW)).mono fun v H1 ⟨w, _, R1⟩ => R1.done fun S B1 F1 o S' st c e wn => ?_
    cases e
    exact wn v H1 B1 F1 trivial st c
theorem pv_op2 {a b : Expr} {op : Operator} {r : R2} {rv : W → W → Option W} {f g : M Opd} (ho : OpR X (binaryOp op) r) (h2 : Op2 (gx X T) r rv) (ha : PO T X Xw a f) (hb : PO T X Xw b g) : PV T X Xw (.BinOp a op b pos) (mOp2 rv f g) :=
  peImp (pe_op ho ha hb) fun σ H Q h => by
    obtain ⟨B, F, R⟩ := h.start
    refine (R.step (k1 := kO)).mono fun x H1 ⟨a, ka, R1⟩ => (R1.step (k1 := kO)).mono fun y H2 ⟨b, kb, R2⟩ => R2.done fun S B1 F1 o S' st c e wn => ?_
    split at e
    · rename_i wx wy ex ey
      obtain ⟨w, e1, e2⟩ := Option.map_eq_some_iff.mp e
      cases e2
      exact h2 st.sub (st.opd (fun z hz => List.mem_append_right _ (List.mem_append_left _ hz)) ka ex) (st.opd (fun z hz => List.mem_append_left _ hz) kb ey) e1 (wn.new st c)
    · cases e
theorem pv_cmp {a b : Expr} {op : CmpOp} {r : R2} {rv : W → W → Option W} {f g : M Opd} (ho : OpR X (compareOp op) r) (h2 : Op2 (gx X T) r rv) (ha : PO T X Xw a f) (hb : PO T X Xw b g) (hm : behindInMarks op b = false := by first | exact nobehind _ (by decide) (by decide) | rfl) : PV T X Xw (.Compare a [op] [b] pos) (mOp2 rv f g) :=
  peImp (pe_cmpR ho ha hb hm) fun σ H Q h => by
    obtain ⟨B, F, R⟩ := h.start
    refine (R.step (k1 := kO)).mono fun x H1 ⟨a, ka, R1⟩ => (R1.step (k1 := kO)).mono fun y H2 ⟨b, kb, R2⟩ => R2.done fun S B1 F1 o S' st c e wn => ?_
    split at e
    · rename_i wx wy ex ey
      obtain ⟨w, e1, e2⟩ := Option.map_eq_some_iff.mp e
      cases e2
      exact h2 st.sub (st.opd (fun z hz => List.mem_append_right _ (List.mem_append_left _ hz)) ka ex) (st.opd (fun z hz => List.mem_append_left _ hz) kb ey) e1 (wn.new st c)
    · cases e
theorem pao_nil : PAO T X Xw [] mNil :=
  paImp pa_nil fun σ H Q ⟨S, B, F, o, S', st, e, w⟩ => by
    cases e
    exact w [] H B F .nil st .refl
theorem pao_cons {e : Expr} {es : List Expr} {f : M Opd} {g : M (List Opd)} (h : PO T X Xw e f) (r : PAO T X Xw es g) (hs : starEach (e :: es) X.env = (false, eval e X.env) :: starEach es X.env := by rfl) : PAO T X Xw (e :: es) (mCons f g) :=
  paImp (pa_cons h r hs) fun σ H Q h => by
    obtain ⟨B, F, R⟩ := h.start
    refine (R.step (k1 := kO)).mono fun v H1 ⟨a, ka, R1⟩ => (R1.step (k1 := kA)).mono fun vs H2 ⟨b, kb, R2⟩ => R2.done fun S B1 F1 o S' st c e wn => ?_
    cases e
    refine wn (v :: vs) H2 B1 F1 (.cons ka kb) ?_ c
    have e : kA.tm b vs ++ (kO.tm a v ++ []) = kA.tm (a :: b) (v :: vs) := by rw [List.append_nil]; rfl
    rw [← e]
    exact st
theorem pv_tup {es : List Expr} {x1} {f : M (List Opd)} (h : PAO T X Xw es f) : PV T X Xw (.Tuple es x1 pos) (mCall (fun ws => (frL ws).bind fun ds => if ds.length ≤ sizeLine then some (.fr (.tup ds)) else none) f) :=
  peImp (pe_tup h) fun σ H Q h => by
    obtain ⟨B, F, R⟩ := h.start
    refine (R.step (k1 := kA)).mono fun vs H1 ⟨os, ks, R1⟩ => R1.done fun S B1 F1 o S' st c e wn => ?_
    split at e
    · rename_i ws ew
      obtain ⟨w, e1, e2⟩ := Option.map_eq_some_iff.mp e
      cases e2
      obtain ⟨ds, e3, e4⟩ := Option.bind_eq_some_iff.mp e1
      split at e4
      · cases e4
        have vl := st.opds (fun z hz => List.mem_append_left _ hz) ks ew
        have rl : RepL (gx X T) B1 ds vs := frL_vw vl e3
        exact ⟨by rw [rl.length]; assumption, (wn.new st c).tup st.sub rl⟩
      · cases e4
    · cases e
/-- a new object takes the held values as its own -/
theorem Sta.wrap {G : Gx} {σ : St} {H B : Hp} {S : Sl} {os : List Opd} {vs : List V} {ws : List W} {w : W} {F : List Addr} {p : Addr} {o : HO} (st : Sta G σ H S (tmpsL os vs) B F) (ks : OkL σ os vs) (e : tmpL os = some ws) (hp : H p = none)
    (mk : ∀ H' F', H' p = some o → OwnL G B H' ws vs F' → Own G B H' w (.ref p) (p :: F')) : ∃ F', Sta G σ (upd H p o) S [(.ref p, w)] B F' ∧ Ch H B F (upd H p o) B F' := by
  obtain ⟨F1, F2, o1, o2, q⟩ := (st.grow (Grow.new (o := o) hp)).own
  obtain ⟨F3, o3, p3⟩ := tmpL_own ks e o2
  have np : ∀ a ∈ F, a ≠ p := fun a h z => not_live hp (z ▸ st.live h)
  have mem : ∀ x ∈ F1 ++ F3, x ∈ F := fun x h => (q.trans (p3.append_left _)).mem_iff.mpr h
  refine ⟨F1 ++ (p :: F3), ⟨st.sub.grow (Grow.new hp), st.tabs.ext (Grow.new hp), ⟨F1, (p :: F3) ++ [], o1, .cons (mk _ _ upd_same o3) .nil, by simp⟩, ?_, fun a h => ?_⟩, ⟨fun a u e _ _ => Grow.new hp a u e, Le.refl _, fun a h => ?_, fun _ _ h => .inl h⟩⟩
  · have nd : (F1 ++ F3).Nodup := (q.trans (p3.append_left _)).nodup_iff.mp st.nd
    have nd2 := List.nodup_append.mp nd
    refine List.nodup_append.mpr ⟨nd2.1, List.nodup_cons.mpr ⟨fun h => np p (mem p (List.mem_append_right _ h)) rfl, nd2.2.1⟩, fun a h1 b h2 e => ?_⟩
    rcases List.mem_cons.mp h2 with h2 | h2
    · exact np a (mem a (List.mem_append_left _ h1)) (e.trans h2)
    · exact nd2.2.2 a h1 b h2 e
  · rcases List.mem_append.mp h with h | h
    · exact st.apart a (mem a (List.mem_append_left _ h))
    · rcases List.mem_cons.mp h with h | h
      · rw [h]; exact fresh_b st.sub hp
      · exact st.apart a (mem a (List.mem_append_right _ h))
  · rcases List.mem_append.mp h with h | h
    · exact .inl (mem a (List.mem_append_left _ h))
    · rcases List.mem_cons.mp h with h | h
      · rw [h]; exact .inr (not_live hp)
      · exact .inl (mem a (List.mem_append_right _ h))
def mWrap (mk : List W → W) (f : M (List Opd)) : M W := bindM f fun os => fun S => match tmpL os with
  | some ws => if ws.length ≤ sizeLine then some (.ok (mk ws), S) else none
  | none => none
theorem OwnL.length {G : Gx} {B H : Hp} : ∀ {ws : List W} {vs : List V} {F : List Addr}, OwnL G B H ws vs F → vs.length = ws.length
  | _, _, _, .nil => rfl
  | _, _, _, .cons _ r => by rw [List.length_cons, List.length_cons, OwnL.length r]
theorem tmpL_len {σ : St} : ∀ {os : List Opd} {vs : List V} {ws : List W}, OkL σ os vs → tmpL os = some ws → vs.length = ws.length
  | _, _, _, .nil, e => by cases e; rfl
  | o :: os, v :: vs, ws, .cons k r, e => by
    cases o with
    | tmp w =>
      have e : (tmpL os).map (w :: ·) = some ws := by simpa [tmpL] using e
      obtain ⟨ws', e1, rfl⟩ := Option.map_eq_some_iff.mp e
      rw [List.length_cons, List.length_cons, tmpL_len r e1]
    | «at» i => simp [tmpL] at e
theorem pv_lst {es : List Expr} {f : M (List Opd)} (h : PAO T X Xw es f) : PV T X Xw (.List es pos) (mWrap .lst f) :=
  peImp (pe_lst h) fun σ H Q h => by
    obtain ⟨B, F, R⟩ := h.start
    refine (R.step (k1 := kA)).mono fun vs H1 ⟨os, ks, R1⟩ => R1.done fun S B1 F1 o S' st c e wn => ?_
    split at e
    · rename_i ws ew
      split at e
      · cases e
        refine ⟨by rw [tmpL_len ks ew]; assumption, fun p hp => ?_⟩
        obtain ⟨F', s2, c2⟩ := Sta.wrap (w := .lst ws) (o := .lst vs) (by simpa [kA] using st) ks ew hp fun H' F' e o => .lst e o
        exact wn _ _ B1 F' trivial s2 (c.trans c2)
      · cases e
    · cases e
/-- a tuple that owns its items -/
theorem pv_tupO {es : List Expr} {x1} {f : M (List Opd)} (h : PAO T X Xw es f) : PV T X Xw (.Tuple es x1 pos) (mWrap .tup f) :=
  peImp (pe_tup h) fun σ H Q h => by
    obtain ⟨B, F, R⟩ := h.start
    refine (R.step (k1 := kA)).mono fun vs H1 ⟨os, ks, R1⟩ => R1.done fun S B1 F1 o S' st c e wn => ?_
    split at e
    · rename_i ws ew
      split at e
      · cases e
        refine ⟨by rw [tmpL_len ks ew]; assumption, fun p hp => ?_⟩
        obtain ⟨F', s2, c2⟩ := Sta.wrap (w := .tup ws) (o := .tup vs) (by simpa [kA] using st) ks ew hp fun H' F' e o => .tup e o
        exact wn _ _ B1 F' trivial s2 (c.trans c2)
      · cases e
    · cases e
/-- a held value is settled -/
def mSet (f : M W) : M W := bindM f fun w => pureM (.fr w.toD)
theorem pv_set {e : Expr} {f : M W} (h : PV T X Xw e f) : PV T X Xw e (mSet f) :=
  peImp h fun σ H Q h => by
    obtain ⟨B, F, R⟩ := h.start
    refine (R.step (k1 := kW)).mono fun v H1 ⟨w, _, R1⟩ => R1.done fun S B1 F1 o S' st c e wn => ?_
    cases e
    obtain ⟨B', F', s2, c2⟩ := Sta.settle (by simpa [kW] using st)
    exact wn v H1 B' F' trivial s2 (c.trans c2)
theorem pv_callB {id : String} {x : Str} {r : List V → Hp → VK → Prop} {rv : List W → Option W} {e : Expr} {es : List Expr} {p : Pos} {f : M (List Opd)} (hc : CallR X (.builtin id) r) (cw : CallW (gx X T) r rv) (hg : Gl X x) (hm : X.mg x = none) (hv : bootBuiltins x = some (.builtin id))
    (ha : PAO T X Xw (e :: es) f) (hn : x ≠ "__name__" := by decide) (hdb : (x == ("__debug__" : Str)) = false := by decide) (hb : starEach (e :: es) X.env = (false, eval e X.env) :: starEach es X.env := by rfl) (hpl : (backTo pos (starEach es X.env)).any (·.1) = false := by rfl) :
    PV T X Xw (.Call (.Name x p) (e :: es) [] pos) (mCall rv f) :=
  peImp (pe_callB hc hg hm hv ha hn hdb hb hpl) fun σ H Q h => by
    obtain ⟨B, F, R⟩ := h.start
    refine (R.step (k1 := kA)).mono fun vs H1 ⟨os, ks, R1⟩ => R1.done fun S B1 F1 o S' st c e wn => ?_
    split at e
    · rename_i ws ew
      obtain ⟨w, e1, e2⟩ := Option.map_eq_some_iff.mp e
      cases e2
      exact cw.run st.sub (st.opds (fun z hz => List.mem_append_left _ hz) ks ew) e1 (wn.new st c)
    · cases e
theorem pv_callTy {T' : String} {x : Str} {r : List V → Hp → VK → Prop} {rv : List W → Option W} {e : Expr} {es : List Expr} {p : Pos} {f : M (List Opd)} (hc : CallR X (.type T') r) (cw : CallW (gx X T) r rv) (hg : Gl X x) (hm : X.mg x = none) (hv : bootBuiltins x = some (.type T'))
    (ha : PAO T X Xw (e :: es) f) (hn : x ≠ "__name__" := by decide) (hdb : (x == ("__debug__" : Str)) = false := by decide) (hb : starEach (e :: es) X.env = (false, eval e X.env) :: starEach es X.env := by rfl) (hpl : (backTo pos (starEach es X.env)).any (·.1) = false := by rfl) :
    PV T X Xw (.Call (.Name x p) (e :: es) [] pos) (mCall rv f) :=
  peImp (pe_callTy hc hg hm hv ha hn hdb hb hpl) fun σ H Q h => by
    obtain ⟨B, F, R⟩ := h.start
    refine (R.step (k1 := kA)).mono fun vs H1 ⟨os, ks, R1⟩ => R1.done fun S B1 F1 o S' st c e wn => ?_
    split at e
    · rename_i ws ew
      obtain ⟨w, e1, e2⟩ := Option.map_eq_some_iff.mp e
      cases e2
      exact cw.run st.sub (st.opds (fun z hz => List.mem_append_left _ hz) ks ew) e1 (wn.new st c)
    · cases e
end
end VD

set_option Elab.async false
set_option linter.all false
set_option maxRecDepth 100000
set_option maxHeartbeats 2000000
namespace VD
open PySem PySem.Spec PyProof.Rows L2

/-! ### tests -/
def mTest (f : M W) : M Bool := bindM f fun w => fun S => match w with
  | .fr (.bl b) => some (.ok b, S)
  | _ => none
def mAnd (f g : M Bool) : M Bool := bindM f fun b => if b = true then g else pureM false
def mOr (f g : M Bool) : M Bool := bindM f fun b => if b = true then pureM true else g
def mNot (f : M Bool) : M Bool := bindM f fun b => pureM (!b)
def mIf (c : M Bool) (f g : M W) : M W := bindM c fun b => if b = true then f else g
def mAndV (f g : M W) : M W := bindM f fun w => fun S => match w with
  | .fr (.bl true) => g S
  | .fr (.bl false) => some (.ok (.fr (.bl false)), S)
  | _ => none
def mOrV (f g : M W) : M W := bindM f fun w => fun S => match w with
  | .fr (.bl false) => g S
  | .fr (.bl true) => some (.ok (.fr (.bl true)), S)
  | _ => none
def mNotV (f : M W) : M W := bindM f fun w => fun S => match w with
  | .fr (.bl b) => some (.ok (.fr (.bl (!b))), S)
  | _ => none
section
variable (T : Tx) (X : Cx) (Xw : WX)
def PBW (e : Expr) (f : M Bool) : Prop := PW X e fun σ H Q => rdG kB (gx X T) σ H Xw Q f
end
section
variable {T : Tx} {X : Cx} {Xw : WX} {pos : Pos} {e a b : Expr}
/-- a truth value's reading, tested -/
theorem rd_test {σ : St} {H : Hp} {Q : Bool → Hp → Prop} {f : M W} (h : rdG kB (gx X T) σ H Xw Q (mTest f)) : rdG kW (gx X T) σ H Xw (fun x H' => ∃ c, x = .bl c ∧ Q c H') f := by
  obtain ⟨B, F, R⟩ := h.start
  refine (R.step (k1 := kW)).mono fun v H1 ⟨w, _, R1⟩ => R1.done fun S B1 F1 o S' st c e wn => ?_
  split at e
  · cases e
    have r := (st.held (v := v) (List.mem_append_left _ (List.mem_cons_self ..))).bl
    obtain ⟨F2, s2, c2⟩ := Sta.drop (ts := []) st
    exact ⟨_, r, wn _ H1 B1 F2 rfl s2 (c.trans c2)⟩
  · cases e
theorem pb_val {f : M W} (h : PV T X Xw e f) (he : ∀ whole, isTrue e X.env whole = (do let v ← whole; standAt e.pos; holding [v] (truthy v)) := by intro _; rfl) : PB T X Xw e (mTest f) :=
  ptImp (pt_val h he) fun σ H Q h => rd_test h
theorem pb_cmp {op : CmpOp} {r : R2} {rv : W → W → Option W} {f g : M Opd} (ho : OpR X (compareOp op) r) (h2 : Op2 (gx X T) r rv) (ha : PO T X Xw a f) (hb : PO T X Xw b g) (hm : behindInMarks op b = false := by first | exact nobehind _ (by decide) (by decide) | rfl) : PB T X Xw (.Compare a [op] [b] pos) (mTest (mOp2 rv f g)) :=
  ptImp (pt_cmpR ho ha hb hm) fun σ H Q h => by
    have h := rd_test h
    obtain ⟨B, F, R⟩ := h.start
    refine (R.step (k1 := kO)).mono fun x H1 ⟨a, ka, R1⟩ => (R1.step (k1 := kO)).mono fun y H2 ⟨b, kb, R2⟩ => R2.done fun S B1 F1 o S' st c e wn => ?_
    split at e
    · rename_i wx wy ex ey
      obtain ⟨w, e1, e2⟩ := Option.map_eq_some_iff.mp e
      cases e2
      exact h2 st.sub (st.opd (fun z hz => List.mem_append_right _ (List.mem_append_left _ hz)) ka ex) (st.opd (fun z hz => List.mem_append_left _ hz) kb ey) e1 (wn.new st c)
    · cases e
theorem pb_not {f : M Bool} (h : PB T X Xw a f) : PB T X Xw (.UnaryOp .Not a pos) (mNot f) :=
  ptImp (pt_not h) fun σ H Q h => by
    obtain ⟨B, F, R⟩ := h.start
    refine (R.step (k1 := kB)).mono fun b' H1 ⟨b, kb, R1⟩ => R1.done fun S B1 F1 o S' st c e wn => ?_
    cases e
    have kb : b = b' := kb
    subst kb
    exact wn _ H1 B1 F1 rfl st c
theorem pbw_and1 {f : M Bool} (h : PB T X Xw a f) : PBW T X Xw (.BoolOp .And [a] pos) f := pw_and1 h
theorem pbw_or1 {f : M Bool} (h : PB T X Xw a f) : PBW T X Xw (.BoolOp .Or [a] pos) f := pw_or1 h
theorem Run.back {α β : Type} {k : Kd α β} {G : Gx} {σ : St} {H H1 B : Hp} {F : List Addr} {Q : β → Hp → Prop} {m : M α} (R : Run k G σ H B F Xw Q [] m H1) : rdG k G σ H1 Xw Q m := by
  obtain ⟨S, B1, F1, o, S', st, c, e, w⟩ := R
  refine ⟨S, B1, F1, o, S', st, e, ?_⟩
  cases o with
  | ok a => exact fun b H' B' F' ok st' c' => w b H' B' F' ok st' (c.trans c')
  | ex x => exact fun cls d H' B' F' st' c' xr => w cls d H' B' F' st' (c.trans c') xr
theorem pbw_and {rest : List Expr} {f g : M Bool} (h : PB T X Xw a f) (r : PBW T X Xw (.BoolOp .And (b :: rest) pos) g) : PBW T X Xw (.BoolOp .And (a :: b :: rest) pos) (mAnd f g) :=
  pwImp (pw_and h r) fun σ H Q h => by
    obtain ⟨B, F, R⟩ := h.start
    refine (R.step (k1 := kB)).mono fun b' H1 ⟨b, kb, R1⟩ => ?_
    have kb : b = b' := kb
    subst kb
    cases b with
    | true => exact iteT R1.back
    | false =>
      refine iteF (R1.done fun S B1 F1 o S' st c e wn => ?_)
      cases e
      exact wn _ H1 B1 F1 rfl st c
theorem pbw_or {rest : List Expr} {f g : M Bool} (h : PB T X Xw a f) (r : PBW T X Xw (.BoolOp .Or (b :: rest) pos) g) : PBW T X Xw (.BoolOp .Or (a :: b :: rest) pos) (mOr f g) :=
  pwImp (pw_or h r) fun σ H Q h => by
    obtain ⟨B, F, R⟩ := h.start
    refine (R.step (k1 := kB)).mono fun b' H1 ⟨b, kb, R1⟩ => ?_
    have kb : b = b' := kb
    subst kb
    cases b with
    | false => exact iteF R1.back
    | true =>
      refine iteT (R1.done fun S B1 F1 o S' st c e wn => ?_)
      cases e
      exact wn _ H1 B1 F1 rfl st c
theorem pb_bool {f : M Bool} (h : PBW T X Xw e f) : PB T X Xw e f := h.pt
theorem pv_one {op} {f : M W} (h : PV T X Xw a f) : PV T X Xw (.BoolOp op [a] pos) f := pe_one h
theorem bl_of {σ : St} {H B : Hp} {S : Sl} {ts : Tmp} {F : List Addr} {v : V} {b : Bool} (st : Sta (gx X T) σ H S ((v, .fr (.bl b)) :: ts) B F) : v = .bl b := (st.held (v := v) (List.mem_cons_self ..)).bl
theorem pv_and {rest : List Expr} {f g : M W} (h : PV T X Xw a f) (r : PV T X Xw (.BoolOp .And (b :: rest) pos) g) : PV T X Xw (.BoolOp .And (a :: b :: rest) pos) (mAndV f g) :=
  peImp (pe_and h r) fun σ H Q h => by
    obtain ⟨B, F, R⟩ := h.start
    refine (R.step (k1 := kW)).mono fun v H1 ⟨w, _, S, B1, F1, o, S', st, c, e, wn⟩ => ?_
    have st : Sta (gx X T) σ H1 S [(v, w)] B1 F1 := by simpa [kW] using st
    obtain ⟨F2, s2, c2⟩ := Sta.drop2 st
    split at e
    · exact ⟨true, bl_of st, iteT (Run.back ⟨S, B1, F2, o, S', s2, c.trans c2, e, wn⟩)⟩
    · cases e
      exact ⟨false, bl_of st, iteF (wn _ H1 B1 F2 trivial (s2.old .bl) (c.trans c2))⟩
    · cases e
theorem pv_or {rest : List Expr} {f g : M W} (h : PV T X Xw a f) (r : PV T X Xw (.BoolOp .Or (b :: rest) pos) g) : PV T X Xw (.BoolOp .Or (a :: b :: rest) pos) (mOrV f g) :=
  peImp (pe_or h r) fun σ H Q h => by
    obtain ⟨B, F, R⟩ := h.start
    refine (R.step (k1 := kW)).mono fun v H1 ⟨w, _, S, B1, F1, o, S', st, c, e, wn⟩ => ?_
    have st : Sta (gx X T) σ H1 S [(v, w)] B1 F1 := by simpa [kW] using st
    obtain ⟨F2, s2, c2⟩ := Sta.drop2 st
    split at e
    · exact ⟨false, bl_of st, iteF (Run.back ⟨S, B1, F2, o, S', s2, c.trans c2, e, wn⟩)⟩
    · cases e
      exact ⟨true, bl_of st, iteT (wn _ H1 B1 F2 trivial (s2.old .bl) (c.trans c2))⟩
    · cases e
theorem pv_not {f : M W} (h : PV T X Xw a f) : PV T X Xw (.UnaryOp .Not a pos) (mNotV f) :=
  peImp (pe_not h) fun σ H Q h => by
    obtain ⟨B, F, R⟩ := h.start
    refine (R.step (k1 := kW)).mono fun v H1 ⟨w, _, S, B1, F1, o, S', st, c, e, wn⟩ => ?_
    have st : Sta (gx X T) σ H1 S [(v, w)] B1 F1 := by simpa [kW] using st
    obtain ⟨F2, s2, c2⟩ := Sta.drop2 st
    split at e
    · cases e
      exact ⟨_, bl_of st, wn _ H1 B1 F2 trivial (s2.old .bl) (c.trans c2)⟩
    · cases e
theorem pv_if {c : Expr} {t : M Bool} {f g : M W} (hc : PB T X Xw c t) (ha : PV T X Xw a f) (hb : PV T X Xw b g) : PV T X Xw (.IfExp c a b pos) (mIf t f g) :=
  peImp (pe_ifExp hc ha hb) fun σ H Q h => by
    obtain ⟨B, F, R⟩ := h.start
    refine (R.step (k1 := kB)).mono fun b' H1 ⟨b, kb, R1⟩ => ?_
    have kb : b = b' := kb
    subst kb
    cases b with
    | true => exact iteT R1.back
    | false => exact iteF R1.back
/-! ### chained comparisons -/
def mChain (rv rv' : W → W → Option W) (f g h : M Opd) : M W := bindM f fun a => bindM g fun b => fun S => match a.get S, b.get S with
  | some x, some y => match rv x y with
    | some (.fr (.bl false)) => some (.ok (.fr (.bl false)), S)
    | some (.fr (.bl true)) => (bindM h fun c => fun S' => match b.get S', c.get S' with
      | some y', some z => (rv' y' z).map fun w => (.ok w, S')
      | _, _ => none) S
    | _ => none
  | _, _ => none
/-- behind an operation: its value is held, all else stands -/
theorem Sta.next {G : Gx} {σ : St} {H B : Hp} {S : Sl} {ts : Tmp} {F : List Addr} {w : W} {Q : VK} (st : Sta G σ H S ts B F) (k : ∀ v H' B' F', Sta G σ H' S ((v, w) :: ts) B' F' → Ch H B F H' B' F' → Q v H') : New G B H w Q := fun v H' B' Fw g l sb fr o n nb nd => by
  obtain ⟨s2, c2⟩ := st.more g l sb fr o n nb nd
  exact k v H' B' _ s2 c2
theorem mem2 {a b : Opd} {x y : V} {ts : Tmp} : (∀ z ∈ a.tmps x, z ∈ kO.tm b y ++ (kO.tm a x ++ ts)) ∧ ∀ z ∈ b.tmps y, z ∈ kO.tm b y ++ (kO.tm a x ++ ts) :=
  ⟨fun z hz => List.mem_append_right _ (List.mem_append_left _ hz), fun z hz => List.mem_append_left _ hz⟩
theorem rd_chain {r r' : R2} {rv rv' : W → W → Option W} {a b c : Expr} {f g h : M Opd} {σ : St} {H : Hp} {Q : VK} (h2 : Op2 (gx X T) r rv) (h3 : Op2 (gx X T) r' rv') (hh : rdG kW (gx X T) σ H Xw Q (mChain rv rv' f g h)) :
    rdG kO (gx X T) σ H Xw (fun x H1 => rdG kO (gx X T) σ H1 Xw (fun y H2 => r x y H2 fun z H3 => ∃ k, z = .bl k ∧ (if k = true then rdG kO (gx X T) σ H3 Xw (fun w' H4 => r' y w' H4 Q) h else Q (.bl false) H3)) g) f := by
  obtain ⟨B, F, R⟩ := hh.start
  refine (R.step (k1 := kO)).mono fun x H1 ⟨a, ka, R1⟩ => (R1.step (k1 := kO)).mono fun y H2 ⟨b, kb, S, B1, F1, o, S', st, c, e, wn⟩ => ?_
  dsimp only at e
  split at e
  · rename_i wx wy ex ey
    have vx := st.opd mem2.1 ka ex
    have vy := st.opd mem2.2 kb ey
    split at e
    · rename_i e1
      cases e
      refine h2 st.sub vx vy e1 (st.next fun v H' B' F' s2 c2 => ⟨false, bl_of s2, iteF ?_⟩)
      obtain ⟨F3, s3, c3⟩ := Sta.drop (ts := []) s2
      exact wn _ H' B' F3 trivial (s3.old .bl) (c.trans (c2.trans c3))
    · rename_i e1
      refine h2 st.sub vx vy e1 (st.next fun v H' B' F' s2 c2 => ⟨true, bl_of s2, iteT ?_⟩)
      obtain ⟨F3, s3, c3⟩ := Sta.drop2 s2
      have R3 : Run kW (gx X T) σ H B F Xw Q _ _ H' := ⟨S, B', F3, o, S', s3, c.trans (c2.trans c3), e, wn⟩
      refine (R3.step (k1 := kO)).mono fun z H4 ⟨d, kd, S4, B4, F4, o4, S5, st4, c4, e4, wn4⟩ => ?_
      dsimp only at e4
      split at e4
      · rename_i y' wz ey' ez
        obtain ⟨w, e5, e6⟩ := Option.map_eq_some_iff.mp e4
        cases e6
        exact h3 st4.sub (st4.opd (fun z hz => List.mem_append_right _ (List.mem_append_left _ hz)) kb ey') (st4.opd (fun z hz => List.mem_append_left _ hz) kd ez) e5 (wn4.new st4 c4)
      · cases e4
    · cases e
  · cases e
theorem pv_chain {op op' : CmpOp} {r r' : R2} {rv rv' : W → W → Option W} {a b c : Expr} {f g h : M Opd} (ho : OpR X (compareOp op) r) (h2 : Op2 (gx X T) r rv) (ho' : OpR X (compareOp op') r') (h3 : Op2 (gx X T) r' rv') (ha : PO T X Xw a f) (hb : PO T X Xw b g) (hc : PO T X Xw c h)
    (hm : lastMarks [op, op'] [b, c] = false := by with_unfolding_all rfl) : PV T X Xw (.Compare a [op, op'] [b, c] pos) (mChain rv rv' f g h) :=
  peImp (pe_chain ho ho' ha hb hc hm) fun σ H Q q => rd_chain h2 h3 (a := a) (b := b) (c := c) q
theorem pb_chain {op op' : CmpOp} {r r' : R2} {rv rv' : W → W → Option W} {a b c : Expr} {f g h : M Opd} (ho : OpR X (compareOp op) r) (h2 : Op2 (gx X T) r rv) (ho' : OpR X (compareOp op') r') (h3 : Op2 (gx X T) r' rv') (ha : PO T X Xw a f) (hb : PO T X Xw b g) (hc : PO T X Xw c h)
    (hm : lastMarks [op, op'] [b, c] = false := by with_unfolding_all rfl) : PB T X Xw (.Compare a [op, op'] [b, c] pos) (mTest (mChain rv rv' f g h)) :=
  ptImp (pt_chain ho ho' ha hb hc hm) fun σ H Q q => rd_chain h2 h3 (a := a) (b := b) (c := c) (rd_test q)
/-! ### subscripts, slices -/
def IxW (G : Gx) (r : R2) (rv : W → W → Option W) : Prop := Op2 G r rv
theorem pv_ix {a b : Expr} {r : R2} {rv : W → W → Option W} {f g : M Opd} (hr : IxR X r) (h2 : Op2 (gx X T) r rv) (ha : PO T X Xw a f) (hb : PO T X Xw b g) (hs : PlainIx b := by intro _ _; rfl) : PV T X Xw (.Subscript a b pos) (mOp2 rv f g) :=
  peImp (pe_ix hr ha hb hs) fun σ H Q h => by
    obtain ⟨B, F, R⟩ := h.start
    refine (R.step (k1 := kO)).mono fun x H1 ⟨a, ka, R1⟩ => (R1.step (k1 := kO)).mono fun y H2 ⟨b, kb, R2⟩ => R2.done fun S B1 F1 o S' st c e wn => ?_
    split at e
    · rename_i wx wy ex ey
      obtain ⟨w, e1, e2⟩ := Option.map_eq_some_iff.mp e
      cases e2
      exact h2 st.sub (st.opd mem2.1 ka ex) (st.opd mem2.2 kb ey) e1 (wn.new st c)
    · cases e
/-- a part of a slice -/
def kP : Kd (Option Int) (Option Int) := ⟨fun _ _ => [], fun _ a b => a = b⟩
def PSl (T : Tx) (X : Cx) (Xw : WX) (e : Option Expr) (f : M (Option Int)) : Prop := L2.PO X e fun σ H Q => rdG kP (gx X T) σ H Xw Q f
def mPart (f : M W) : M (Option Int) := bindM f fun w => fun S => match w with
  | .fr (.int i) => some (.ok (some i), S)
  | _ => none
theorem psl_none : PSl T X Xw none (pureM none) := ⟨fun pins s σ H Q I ⟨S, B, F, o, S', st, e, w⟩ => by
  refine po_none.run pins s σ H Q I ?_
  cases e
  exact w none H B F rfl st .refl⟩
theorem psl_some {a : Expr} {f : M W} (h : PV T X Xw a f) : PSl T X Xw (some a) (mPart f) := ⟨fun pins s σ H Q I hh => by
  refine (L2.po_some h).run pins s σ H Q I ?_
  obtain ⟨B, F, R⟩ := rdG.start hh
  refine (R.step (k1 := kW)).mono fun v H1 ⟨w, _, S, B1, F1, o, S', st, c, e, wn⟩ => ?_
  have st : Sta (gx X T) σ H1 S [(v, w)] B1 F1 := by simpa [kW] using st
  dsimp only at e
  split at e
  · cases e
    obtain ⟨F2, s2, c2⟩ := Sta.drop2 st
    exact ⟨_, (st.held (List.mem_cons_self ..)).int, wn _ H1 B1 F2 rfl s2 (c.trans c2)⟩
  · cases e⟩
structure SlW (G : Gx) (r : V → Option Int → Option Int → Hp → VK → Prop) (rv : W → Option Int → Option Int → Option W) : Prop where
  run : ∀ {B H : Hp} {x w : W} {v : V} {lo hi : Option Int} {Q : VK}, Sub B H → Vw G B H x v → rv x lo hi = some w → New G B H w Q → r v lo hi H Q
def mSl (rv : W → Option Int → Option Int → Option W) (f : M Opd) (l u : M (Option Int)) : M W := bindM f fun a => bindM l fun lo => bindM u fun hi => fun S => match a.get S with
  | some x => (rv x lo hi).map fun w => (.ok w, S)
  | none => none
theorem pv_sl {a : Expr} {lo hi : Option Expr} {p2 : Pos} {r : V → Option Int → Option Int → Hp → VK → Prop} {rv : W → Option Int → Option Int → Option W} {f : M Opd} {l u : M (Option Int)} (hr : SlR X r) (h2 : SlW (gx X T) r rv) (ha : PO T X Xw a f) (hl : PSl T X Xw lo l) (hu : PSl T X Xw hi u) :
    PV T X Xw (.Subscript a (.Slice lo hi none p2) pos) (mSl rv f l u) :=
  peImp (pe_slice hr ha hl hu) fun σ H Q h => by
    obtain ⟨B, F, R⟩ := h.start
    refine (R.step (k1 := kO)).mono fun x H1 ⟨a, ka, R1⟩ => (R1.step (k1 := kP)).mono fun lo' H2 ⟨lo, kl, R2⟩ => (R2.step (k1 := kP)).mono fun hi' H3 ⟨hi, kh, R3⟩ => R3.done fun S B1 F1 o S' st c e wn => ?_
    have kl : lo = lo' := kl
    have kh : hi = hi' := kh
    subst kl kh
    split at e
    · rename_i wx ex
      obtain ⟨w, e1, e2⟩ := Option.map_eq_some_iff.mp e
      cases e2
      exact h2.run st.sub (st.opd (fun z hz => by simpa [kP, kO] using hz) ka ex) e1 (wn.new st c)
    · cases e
end
end VD

set_option Elab.async false
set_option linter.all false
set_option maxRecDepth 100000
set_option maxHeartbeats 2000000
namespace VD
open PySem PySem.Spec PyProof.Rows L2

/-! ### items -/
def lookD (kvs : List (Key × D)) (k : Key) : Option D := (kvs.find? fun kv => decide (kv.1 = k)).map (·.2)
def D.key : D → Option Key
  | .int i => some (.inl i)
  | .str s => some (.inr s)
  | _ => none
def frK : List (Key × W) → Option (List (Key × D))
  | [] => some []
  | (k, .fr d) :: ws => (frK ws).map ((k, d) :: ·)
  | _ :: _ => none
def W.asD : W → Option (List (Key × D))
  | .fr (.dct kvs) => some kvs
  | .dct ws => frK ws
  | _ => none
section
variable {G : Gx} {B H : Hp}
theorem RepK.look : ∀ {kvs : List (Key × D)} {vs : List (Key × V)} (k : Key), RepK G B kvs vs → (∀ d, lookD kvs k = some d → ∃ v, valV vs k = some v ∧ Rep G B d v) ∧ (lookD kvs k = none → valV vs k = none)
  | [], [], k, .nil => ⟨fun d e => by simp [lookD] at e, fun _ => rfl⟩
  | (k', d0) :: ds, (_, v0) :: vs, k, .cons h r => by
    obtain ⟨i1, i2⟩ := RepK.look k r
    by_cases e : k' = k
    · refine ⟨fun d q => ?_, fun q => ?_⟩
      · rw [valV_pos (by exact e)]
        simp [lookD, List.find?_cons, e] at q
        subst q
        exact ⟨_, rfl, h⟩
      · simp [lookD, List.find?_cons, e] at q
    · have q : lookD ((k', d0) :: ds) k = lookD ds k := by simp [lookD, List.find?_cons, e]
      rw [q, valV_neg (by exact e)]
      exact ⟨i1, i2⟩
theorem frK_rep : ∀ {ws : List (Key × W)} {ds : List (Key × D)} {vs : List (Key × V)} {F : List Addr}, frK ws = some ds → OwnK G B H ws vs F → RepK G B ds vs
  | [], _, _, _, e, .nil => by simp [frK] at e; subst e; exact .nil
  | (k, .fr d) :: ws, ds, _, _, e, .cons h r => by
    have e : (frK ws).map ((k, d) :: ·) = some ds := by simpa [frK] using e
    obtain ⟨ds', e1, rfl⟩ := Option.map_eq_some_iff.mp e
    cases h with
    | fr h => exact .cons h (frK_rep e1 r)
  | (_, .lst _) :: ws, _, _, _, e, _ => by simp [frK] at e
  | (_, .tup _) :: ws, _, _, _, e, _ => by simp [frK] at e
  | (_, .dct _) :: ws, _, _, _, e, _ => by simp [frK] at e
  | (_, .obj _ _) :: ws, _, _, _, e, _ => by simp [frK] at e
theorem Vw.dct {w : W} {v : V} {ds : List (Key × D)} (h : Vw G B H w v) (s : Sub B H) (e : w.asD = some ds) : ∃ a vs, v = .ref a ∧ Rd H a (.dK vs) ∧ RepK G B ds vs := by
  obtain ⟨F, o⟩ := h
  cases o with
  | fr r =>
    cases r with
    | dct h r =>
      have e : some _ = some ds := e
      cases e
      rcases s _ _ h with q | ⟨_, ob, q⟩
      · exact ⟨_, _, rfl, .inl q, r⟩
      · exact ⟨_, _, rfl, .inr ⟨ob, q⟩, r⟩
    | _ => simp [W.asD] at e
  | dct h r => exact ⟨_, _, rfl, .inl h, frK_rep e r⟩
  | _ => simp [W.asD] at e
theorem Rep.key {d : D} {k : Key} {v : V} (h : Rep G B d v) (e : d.key = some k) : v = kV k := by
  cases h <;> simp [D.key] at e <;> subst e <;> rfl
end
def rIxDct : R2 := fun x y H Q => ∃ a v, x = .ref a ∧ DGet H a y (some v) ∧ Q v H
theorem ix_dct {X : Cx} (hu : X.A.units + 1 < cLine) : IxR X rIxDct := by
  intro value slice pins s σ H x y v u Q I rx ry h hs
  obtain ⟨a, w, rfl, g, q⟩ := h
  cases rx
  exact tail_any (dict_typeIs I g) PySem.F.slot_dict_getitem.lookup (d_getItem hu I g ry fun w' s3 I3 rw' => ⟨w, H, I3, rw', q⟩) hs
def ixL : W → W → Option W := fun x y => match x.asLr, y with
  | some ds, .fr (.int i) => (atI ds i).map .fr
  | _, _ => none
def ixT : W → W → Option W := fun x y => match x.asT, y with
  | some ds, .fr (.int i) => (atI ds i).map .fr
  | _, _ => none
def ixS : W → W → Option W := fun x y => match x, y with
  | .fr (.str s), .fr (.int i) => if s.length ≤ sizeLine then (atI s.cps.toList i).map fun c => .fr (.str ⟨#[c]⟩) else none
  | _, _ => none
def ixD : W → W → Option W := fun x y => match x.asD, y with
  | some kvs, .fr d => d.key.bind fun k => (lookD kvs k).map .fr
  | _, _ => none
section
variable {G : Gx} {B H : Hp}
theorem RepL.atI {ds : List D} {vs : List V} {i : Int} {d : D} (r : RepL G B ds vs) (e : L2.atI ds i = some d) : ∃ v, L2.atI vs i = some v ∧ Rep G B d v := by
  unfold L2.atI at e ⊢
  obtain ⟨j, e1, e2⟩ := Option.bind_eq_some_iff.mp e
  rw [r.length, e1]
  obtain ⟨v, h1, h2⟩ := r.get e2
  exact ⟨v, h1, h2⟩
theorem op2IxL : Op2 G (rIxL G.K) ixL := fun {B H x y w v u Q} s vx vy e n => by
  unfold ixL at e
  split at e
  · rename_i ds i e1
    obtain ⟨d, e2, rfl⟩ := Option.map_eq_some_iff.mp e
    obtain ⟨a, vs, rfl, h1, r⟩ := vx.lstr s e1
    obtain ⟨z, h2, h3⟩ := r.atI e2
    exact ⟨a, vs, i, z, rfl, vy.int, h1, h2, n.old s h3⟩
  · cases e
theorem op2IxT : Op2 G (rIxT G.K) ixT := fun {B H x y w v u Q} s vx vy e n => by
  unfold ixT at e
  split at e
  · rename_i ds i e1
    obtain ⟨d, e2, rfl⟩ := Option.map_eq_some_iff.mp e
    obtain ⟨a, vs, rfl, h1, r⟩ := vx.tup s e1
    obtain ⟨z, h2, h3⟩ := r.atI e2
    exact ⟨a, vs, i, z, rfl, vy.int, h1, h2, n.old s h3⟩
  · cases e
theorem op2IxS : Op2 G rIxS ixS := fun {B H x y w v u Q} s vx vy e n => by
  unfold ixS at e
  split at e
  · rename_i z i
    split at e
    · obtain ⟨c, e2, rfl⟩ := Option.map_eq_some_iff.mp e
      exact ⟨z, i, c, vx.str, vy.int, by assumption, e2, n.str s⟩
    · cases e
  · cases e
theorem op2IxD : Op2 G rIxDct ixD := fun {B H x y w v u Q} s vx vy e n => by
  unfold ixD at e
  split at e
  · rename_i kvs d e1
    obtain ⟨k, e2, e3⟩ := Option.bind_eq_some_iff.mp e
    obtain ⟨d', e4, rfl⟩ := Option.map_eq_some_iff.mp e3
    obtain ⟨a, vs, rfl, h1, r⟩ := vx.dct s e1
    obtain ⟨z, h2, h3⟩ := (r.look k).1 d' e4
    exact ⟨a, z, rfl, .inl ⟨vs, k, h1, vy.rep.key e2, h2.symm⟩, n.old s h3⟩
  · cases e
end
def rvIx : W → W → Option W := orO (orO ixL (orO ixT ixS)) ixD
def rIxU (K : PySem.W.Frag) : R2 := fun x y H Q => rIx K x y H Q ∨ rIxDct x y H Q
theorem op2Ix {G : Gx} : Op2 G (rIxU G.K) rvIx := Op2.or (Op2.or op2IxL (Op2.or op2IxT op2IxS)) op2IxD
theorem ixU {X : Cx} (hu : X.A.units + 1 < cLine) : IxR X (rIxU X.K) := IxR.or ix_seq (ix_dct hu)
/-! ### slices -/
def cutD (xs : List D) (lo hi : Option Int) : List D := (xs.drop (HT.sIx xs.length 0 lo)).take (HT.sIx xs.length xs.length hi - HT.sIx xs.length 0 lo)
def slS : W → Option Int → Option Int → Option W := fun x lo hi => match x with
  | .fr (.str s) => if s.length ≤ sizeLine then some (.fr (.str (cutS s lo hi))) else none
  | _ => none
def slL : W → Option Int → Option Int → Option W := fun x lo hi => match x.asL with
  | some ds => some (newL (cutD ds lo hi))
  | none => none
def slT : W → Option Int → Option Int → Option W := fun x lo hi => match x with
  | .fr (.tup ds) => some (.fr (.tup (cutD ds lo hi)))
  | _ => none
def orS (f g : W → Option Int → Option Int → Option W) : W → Option Int → Option Int → Option W := fun x lo hi => match f x lo hi with
  | some w => some w
  | none => g x lo hi
theorem SlW.or {G : Gx} {r r' : V → Option Int → Option Int → Hp → VK → Prop} {f g : W → Option Int → Option Int → Option W} (a : SlW G r f) (b : SlW G r' g) : SlW G (fun x lo hi H Q => r x lo hi H Q ∨ r' x lo hi H Q) (orS f g) := ⟨fun {B H x w v lo hi Q} s vx e n => by
  unfold orS at e
  split at e
  · rename_i w' e'
    cases e
    exact .inl (a.run s vx e' n)
  · exact .inr (b.run s vx e n)⟩
section
variable {G : Gx} {B H : Hp}
theorem slWS : SlW G rSlS slS := ⟨fun {B H x w v lo hi Q} s vx e n => by
  unfold slS at e
  split at e
  · split at e
    · cases e
      exact ⟨_, vx.str, by assumption, n.str s⟩
    · cases e
  · cases e⟩
theorem RepL.cut {ds : List D} {vs : List V} (r : RepL G B ds vs) (lo hi : Option Int) : RepL G B (cutD ds lo hi) (cutV vs lo hi) := by
  unfold cutD cutV
  rw [r.length]
  exact (r.drop _).take _
theorem slWL : SlW G (rSlL G.K) slL := ⟨fun {B H x w v lo hi Q} s vx e n => by
  unfold slL at e
  split at e
  · rename_i ds e1
    cases e
    obtain ⟨a, vs, rfl, h1, r⟩ := vx.lst s e1
    exact ⟨a, vs, rfl, SqL.of h1, n.lst s (r.cut lo hi)⟩
  · cases e⟩
theorem slWT : SlW G (rSlA G.K) slT := ⟨fun {B H x w v lo hi Q} s vx e n => by
  unfold slT at e
  split at e
  · rename_i ds
    cases e
    have t := vx.rep
    cases t with
    | @tup a _ vs h r =>
      refine ⟨a, vs, rfl, sqT_sub s h, fun ⟨h1, h2⟩ => ?_, fun _ => n.tup s (r.cut lo hi)⟩
      have e : cutD ds lo hi = ds := by
        unfold cutD
        rw [r.length] at h1 h2
        rw [h1, h2, List.drop_zero, Nat.sub_zero, List.take_length]
      rw [e] at n
      exact n.old s (.tup h r)
  · cases e⟩
end
def rvSl : W → Option Int → Option Int → Option W := orS slS (orS slL slT)
def rSlU (K : PySem.W.Frag) : V → Option Int → Option Int → Hp → VK → Prop := fun x lo hi H Q => rSlS x lo hi H Q ∨ rSlL K x lo hi H Q ∨ rSlA K x lo hi H Q
theorem slWU {G : Gx} : SlW G (rSlU G.K) rvSl := SlW.or slWS (SlW.or slWL slWT)
theorem slU {X : Cx} : SlR X (rSlU X.K) := SlR.or sl_str (SlR.or sl_list sl_tupA)
/-! ### in -/
def rDIn (neg : Bool) : R2 := fun x y H Q => ∃ a o, y = .ref a ∧ DGet H a x o ∧ Q (.bl (if neg then !o.isSome else o.isSome)) H
theorem op_dIn {X : Cx} (hu : X.A.units + 1 < cLine) : OpR X (compareOp .In) (rDIn false) := by
  intro pins s σ H x y v u Q I rx ry h
  obtain ⟨a, o, rfl, g, q⟩ := h
  cases ry
  exact d_in hu I g rx fun s3 I3 => ⟨.bl o.isSome, H, I3, rfl, q⟩
theorem op_dNotIn {X : Cx} (hu : X.A.units + 1 < cLine) : OpR X (compareOp .NotIn) (rDIn true) := by
  intro pins s σ H x y v u Q I rx ry h
  obtain ⟨a, o, rfl, g, q⟩ := h
  cases ry
  exact d_notIn hu I g rx fun s3 I3 => ⟨.bl (!o.isSome), H, I3, rfl, q⟩
def rInT (K : PySem.W.Frag) (neg : Bool) : R2 := fun x y H Q => ∃ d ds, Dp K H x d ∧ Dp K H y (.tuple ds) ∧ SeqAt.shaped d = true ∧ SeqAt.shaped (.tuple ds) = true ∧ Q (.bl (if neg then !ds.any fun z => PyData.eqv z d else ds.any fun z => PyData.eqv z d)) H
theorem op_inT {X : Cx} (hu : X.A.units + 65 < cLine) : OpR X (compareOp .In) (rInT X.K false) := by
  intro pins s σ H x y v u Q I rx ry h
  obtain ⟨d, ds, hd, he, sd, se, q⟩ := h
  obtain ⟨as, r1⟩ := Dp.reads I d x v hd rx
  obtain ⟨bs, r2⟩ := Dp.reads I (.tuple ds) y u he ry
  exact SeqAt.in_tuple_reads r2 r1 (SeqAt.canLay_of_shaped se) (SeqAt.canLay_of_shaped sd) (PyProof.Rows.room_in_shaped sd hu) ⟨.bl _, H, I, rfl, q⟩
theorem op_notInT {X : Cx} (hu : X.A.units + 65 < cLine) : OpR X (compareOp .NotIn) (rInT X.K true) := by
  intro pins s σ H x y v u Q I rx ry h
  obtain ⟨d, ds, hd, he, sd, se, q⟩ := h
  obtain ⟨as, r1⟩ := Dp.reads I d x v hd rx
  obtain ⟨bs, r2⟩ := Dp.reads I (.tuple ds) y u he ry
  exact SeqAt.notIn_tuple_reads r2 r1 (SeqAt.canLay_of_shaped se) (SeqAt.canLay_of_shaped sd) (PyProof.Rows.room_in_shaped sd hu) ⟨.bl _, H, I, rfl, q⟩
/-- whether an item stands in a list | a tuple -/
def inD (x y : D) : Option Bool := match x.py, y.py with
  | some p, some (.list ps) => if SeqAt.shaped p && SeqAt.shaped (.list ps) then some (ps.any fun z => PyData.eqv z p) else none
  | some p, some (.tuple ps) => if SeqAt.shaped p && SeqAt.shaped (.tuple ps) then some (ps.any fun z => PyData.eqv z p) else none
  | _, _ => none
/-- in -/
def inW (x y : W) : Option Bool := match x, y with
  | .fr (.str a), .fr (.str b) => some (inS a b)
  | x, y => match x, y.asD with
    | .fr d, some kvs => d.key.map fun k => (lookD kvs k).isSome
    | _, _ => inD x.toD y.toD
def rvIn : W → W → Option W := fun x y => (inW x y).map fun b => .fr (.bl b)
def rvNotIn : W → W → Option W := fun x y => (inW x y).map fun b => .fr (.bl (!b))
def rInSt (neg : Bool) : R2 := fun x y H Q => (∃ i j, x = .str i ∧ y = .str j ∧ Q (.bl (if neg then !(!(Builtin.Str.occurrences j i 0 j.length 1).isEmpty) else !(Builtin.Str.occurrences j i 0 j.length 1).isEmpty)) H) ∨
  ∃ (c : Nat) (z : Str), x = .str ⟨#[c]⟩ ∧ y = .str z ∧ Q (.bl (if neg then !decide (c ∈ z.cps.toList) else decide (c ∈ z.cps.toList))) H
def rInU (K : PySem.W.Frag) : R2 := fun x y H Q => rInSt false x y H Q ∨ rDIn false x y H Q ∨ rInD K x y H Q ∨ rInT K false x y H Q
def rNotInU (K : PySem.W.Frag) : R2 := fun x y H Q => rInSt true x y H Q ∨ rDIn true x y H Q ∨ rNotInD K x y H Q ∨ rInT K true x y H Q
theorem opIn {X : Cx} (hu : X.A.units + 65 < cLine) : OpR X (compareOp .In) (rInU X.K) := OpR.or (r := rInSt false) (OpR.or op_in_str op_in_sign) (OpR.or (op_dIn (by omega)) (OpR.or (op_inD hu) (op_inT hu)))
theorem opNotIn {X : Cx} (hu : X.A.units + 65 < cLine) : OpR X (compareOp .NotIn) (rNotInU X.K) := OpR.or (r := rInSt true) (OpR.or op_notIn_str op_notIn_sign) (OpR.or (op_dNotIn (by omega)) (OpR.or (op_notInD hu) (op_notInT hu)))
theorem inS_case (a b : Str) : (∃ c, a = ⟨#[c]⟩ ∧ inS a b = decide (c ∈ b.cps.toList)) ∨ inS a b = !(Builtin.Str.occurrences b a 0 b.length 1).isEmpty := by
  unfold inS
  split
  · rename_i c e
    refine .inl ⟨c, ?_, rfl⟩
    cases a with
    | mk cps =>
      have e : cps.toList = [c] := e
      have : cps = #[c] := by
        apply Array.ext'
        simpa using e
      rw [this]
  · exact .inr rfl
section
variable {G : Gx} {B H : Hp}
theorem inU_go {x y : W} {v u : V} {b : Bool} (neg : Bool) {Q : VK} (s : Sub B H) (vx : Vw G B H x v) (vy : Vw G B H y u) (e : inW x y = some b) (n : New G B H (.fr (.bl (if neg then !b else b))) Q) :
    rInSt neg v u H Q ∨ rDIn neg v u H Q ∨ (if neg then rNotInD G.K v u H Q else rInD G.K v u H Q) ∨ rInT G.K neg v u H Q := by
  have dat : inD x.toD y.toD = some b → (if neg then rNotInD G.K v u H Q else rInD G.K v u H Q) ∨ rInT G.K neg v u H Q := fun e => by
    obtain ⟨F1, o1⟩ := vx
    obtain ⟨F2, o2⟩ := vy
    unfold inD at e
    split at e
    · rename_i p ps e1 e2
      split at e
      · rename_i hs
        cases e
        have hs := Bool.and_eq_true_iff.mp hs
        refine .inl ?_
        cases neg with
        | true => exact ⟨p, ps, o1.dp s e1, o2.dp s e2, hs.1, hs.2, n.bl s⟩
        | false => exact ⟨p, ps, o1.dp s e1, o2.dp s e2, hs.1, hs.2, n.bl s⟩
      · cases e
    · rename_i p ps e1 e2
      split at e
      · rename_i hs
        cases e
        have hs := Bool.and_eq_true_iff.mp hs
        exact .inr ⟨p, ps, o1.dp s e1, o2.dp s e2, hs.1, hs.2, n.bl s⟩
      · cases e
    · cases e
  unfold inW at e
  split at e
  · rename_i a b'
    cases e
    refine .inl ?_
    rcases inS_case a b' with ⟨c, rfl, h⟩ | h
    · rw [h] at n
      exact .inr ⟨c, b', vx.str, vy.str, n.bl s⟩
    · rw [h] at n
      exact .inl ⟨a, b', vx.str, vy.str, n.bl s⟩
  · split at e
    · rename_i d kvs e1 _
      obtain ⟨k, e2, rfl⟩ := Option.map_eq_some_iff.mp e
      obtain ⟨a, vs, rfl, h1, r⟩ := vy.dct s e1
      refine .inr (.inl ?_)
      have hb : (lookD kvs k).isSome = (valV vs k).isSome := by
        cases q : lookD kvs k with
        | none => rw [(r.look k).2 q] <;> rfl
        | some d =>
          obtain ⟨z, h2, _⟩ := (r.look k).1 d q
          rw [h2]
          rfl
      rw [hb] at n
      exact ⟨a, valV vs k, rfl, .inl ⟨vs, k, h1, vx.rep.key e2, rfl⟩, n.bl s⟩
    · exact .inr (.inr (dat e))
theorem op2In : Op2 G (rInU G.K) rvIn := fun {B H x y w v u Q} s vx vy e n => by
  obtain ⟨b, e1, rfl⟩ := Option.map_eq_some_iff.mp e
  exact inU_go false s vx vy e1 n
theorem op2NotIn : Op2 G (rNotInU G.K) rvNotIn := fun {B H x y w v u Q} s vx vy e n => by
  obtain ⟨b, e1, rfl⟩ := Option.map_eq_some_iff.mp e
  exact inU_go true s vx vy e1 n
end
/-! ### built-in functions -/
section
variable {G : Gx}
theorem VwL.one {B H : Hp} {w : W} {vs : List V} (h : VwL G B H [w] vs) : ∃ v, vs = [v] ∧ Vw G B H w v := by
  cases h with
  | cons h r => cases r; exact ⟨_, rfl, h⟩
theorem VwL.two {B H : Hp} {w u : W} {vs : List V} (h : VwL G B H [w, u] vs) : ∃ v z, vs = [v, z] ∧ Vw G B H w v ∧ Vw G B H u z := by
  cases h with
  | cons h r =>
    obtain ⟨z, rfl, h2⟩ := r.one
    exact ⟨_, _, rfl, h, h2⟩
def one (f : W → Option W) : List W → Option W
  | [w] => f w
  | _ => none
def two (f : W → W → Option W) : List W → Option W
  | [w, u] => f w u
  | _ => none
theorem one_inv {f : W → Option W} {ws : List W} {w : W} (e : one f ws = some w) : ∃ x, ws = [x] ∧ f x = some w := by
  unfold one at e
  split at e
  · exact ⟨_, rfl, e⟩
  · cases e
theorem two_inv {f : W → W → Option W} {ws : List W} {w : W} (e : two f ws = some w) : ∃ x y, ws = [x, y] ∧ f x y = some w := by
  unfold two at e
  split at e
  · exact ⟨_, _, rfl, e⟩
  · cases e
/-- len -/
def W.len : W → Option Nat
  | .fr (.str s) => if s.length ≤ sizeLine then some s.length else none
  | .fr (.tup ds) => some ds.length
  | .tup ws => some ws.length
  | .fr (.dct kvs) => some kvs.length
  | .dct kvs => some kvs.length
  | .lst ws => some ws.length
  | w => w.asLr.map List.length
def rLenU (K : PySem.W.Frag) : List V → Hp → VK → Prop := fun xs H Q => (∃ x n, xs = [x] ∧ LenV K x H n ∧ Q (.int n) H) ∨ ∃ a kvs, xs = [V.ref a] ∧ H a = some (.dK kvs) ∧ Q (.int kvs.length) H
theorem RepK.length {B : Hp} : ∀ {ds : List (Key × D)} {vs : List (Key × V)}, RepK G B ds vs → vs.length = ds.length
  | _, _, .nil => rfl
  | _, _, .cons _ r => by rw [List.length_cons, List.length_cons, RepK.length r]
theorem OwnK.length {B H : Hp} : ∀ {ds : List (Key × W)} {vs : List (Key × V)} {F : List Addr}, OwnK G B H ds vs F → vs.length = ds.length
  | _, _, _, .nil => rfl
  | _, _, _, .cons _ r => by rw [List.length_cons, List.length_cons, OwnK.length r]
/-- what len asks, a dict unlocked -/
theorem len_go {B H : Hp} {x : W} {v : V} {n : Nat} (s : Sub B H) (h : Vw G B H x v) (e : x.len = some n) : LenV G.K v H n ∨ ∃ a kvs, v = .ref a ∧ Rd H a (.dK kvs) ∧ n = kvs.length := by
  have lr : ∀ {ds}, x.asLr = some ds → ds.length = n → LenV G.K v H n := fun {ds} e hl => by
    obtain ⟨a, vs, rfl, h1, r⟩ := h.lstr s e
    exact .inl ⟨vs, h1, by rw [r.length, hl]⟩
  obtain ⟨F, o⟩ := id h
  cases o with
  | fr r =>
    cases r with
    | str =>
      rename_i z
      have e : (if z.length ≤ sizeLine then some z.length else none) = some n := e
      split at e
      · cases e
        exact .inl ⟨by assumption, rfl⟩
      · cases e
    | tup h1 r1 =>
      cases e
      exact .inl (.inr ⟨_, sqT_sub s h1, r1.length.symm⟩)
    | dct h1 r1 =>
      cases e
      rcases s _ _ h1 with q | ⟨_, ob, q⟩
      · exact .inr ⟨_, _, rfl, .inl q, r1.length.symm⟩
      · exact .inr ⟨_, _, rfl, .inr ⟨ob, q⟩, r1.length.symm⟩
    | lst h1 r1 => exact .inl (lr rfl (by cases e; rfl))
    | scr h1 => exact .inl (lr rfl (by cases e; rfl))
    | _ => cases e
  | lst h1 r1 => cases e; exact .inl (.inl ⟨_, SqL.of h1, r1.length.symm⟩)
  | tup h1 r1 => cases e; exact .inl (.inr ⟨_, SqT.of h1, r1.length.symm⟩)
  | dct h1 r1 => cases e; exact .inr ⟨_, _, rfl, .inl h1, r1.length.symm⟩
  | obj m h1 r1 => cases e
end
end VD

set_option Elab.async false
set_option linter.all false
set_option maxRecDepth 100000
set_option maxHeartbeats 2000000
namespace VD
open PySem PySem.Spec PyProof.Rows L2

/-! ### statements -/
inductive Flo where
  | nx | rt (w : W) | bk | ct | ex (c : Exc)
abbrev MS := Sl → Option (Flo × Sl)
section
variable (G : Gx) (P : Nat) (D : Ends) (σ : St) (H B : Hp) (F : List Addr) (Xw : WX)
def WantS : Flo → Sl → Prop
  | .nx, S' => ∀ σ' H' B' F', Sta G σ' H' S' [] B' F' → Ch H B F H' B' F' → σ'.take P = σ.take P → D.nx σ' H'
  | .rt w, S' => ∀ v σ' H' B' F', Sta G σ' H' S' [(v, w)] B' F' → Ch H B F H' B' F' → σ'.take P = σ.take P → D.rt v H'
  | .bk, S' => ∀ σ' H' B' F', Sta G σ' H' S' [] B' F' → Ch H B F H' B' F' → σ'.take P = σ.take P → D.bk σ' H'
  | .ct, S' => ∀ σ' H' B' F', Sta G σ' H' S' [] B' F' → Ch H B F H' B' F' → σ'.take P = σ.take P → D.ct σ' H'
  | .ex c, S' => ∀ cls d σ' H' B' F', Sta G σ' H' S' [] B' F' → Ch H B F H' B' F' → σ'.take P = σ.take P → ExR G B' c cls d H' → Xw cls d σ' H'
def rdS (m : MS) : Prop := ∃ S B F o S', Sta G σ H S [] B F ∧ m S = some (o, S') ∧ WantS G P D σ H B F Xw o S'
end
section
variable (T : Tx) (X : Cx) (Xw : WX) (P : Nat)
def PSV (st : Stmt) (m : MS) : Prop := PS X st fun D σ H => rdS (gx X T) P D σ H Xw m
def PSL (st : List Stmt) (m : MS) : Prop := PSs X st fun D σ H => rdS (gx X T) P D σ H Xw m
end
def mNext : MS := fun S => some (.nx, S)
def mSeq (f g : MS) : MS := fun S => match f S with
  | some (.nx, S') => g S'
  | r => r
/-- behind an expression -/
def bindS {α : Type} (f : M α) (k : α → MS) : MS := fun S => match f S with
  | none => none
  | some (.ex c, S') => some (.ex c, S')
  | some (.ok a, S') => k a S'
section
variable {G : Gx} {P : Nat} {D : Ends} {σ σ1 : St} {H B H1 B1 : Hp} {F F1 : List Addr} {Xw : WX} {o : Flo} {S S' : Sl} {ts : Tmp}
theorem WantS.later (w : WantS G P D σ H B F Xw o S') (c : Ch H B F H1 B1 F1) (t : σ1.take P = σ.take P) : WantS G P D σ1 H1 B1 F1 Xw o S' := by
  cases o with
  | nx => exact fun σ' H' B' F' st c' t' => w σ' H' B' F' st (c.trans c') (t'.trans t)
  | rt x => exact fun v σ' H' B' F' st c' t' => w v σ' H' B' F' st (c.trans c') (t'.trans t)
  | bk => exact fun σ' H' B' F' st c' t' => w σ' H' B' F' st (c.trans c') (t'.trans t)
  | ct => exact fun σ' H' B' F' st c' t' => w σ' H' B' F' st (c.trans c') (t'.trans t)
  | ex c0 => exact fun cls d σ' H' B' F' st c' t' => w cls d σ' H' B' F' st (c.trans c') (t'.trans t)
/-- an expression ahead: what is held meanwhile is none -/
theorem rdS.step {α β : Type} {k : Kd α β} {f : M α} {g : α → MS} (h : rdS G P D σ H Xw (bindS f g)) :
    rdG k G σ H Xw (fun b H1 => ∃ a B F B1 F1 S o S', k.ok σ a b ∧ Sta G σ H1 S (k.tm a b) B1 F1 ∧ Ch H B F H1 B1 F1 ∧ g a S = some (o, S') ∧ WantS G P D σ H B F Xw o S') f := by
  obtain ⟨S, B, F, o, S', st, e, w⟩ := h
  unfold bindS at e
  cases e1 : f S with
  | none => rw [e1] at e; cases e
  | some r =>
    obtain ⟨r, S1⟩ := r
    rw [e1] at e
    cases r with
    | ex x =>
      have e : some (Flo.ex x, S1) = some (o, S') := e
      cases e
      exact ⟨S, B, F, _, _, st, e1, fun cls d H' B' F' st' c' xr => w cls d σ H' B' F' st' c' rfl xr⟩
    | ok a =>
      have e : g a S1 = some (o, S') := e
      exact ⟨S, B, F, _, S1, st, e1, fun b H' B' F' ok st' c' => ⟨a, B, F, B', F', S1, o, S', ok, st', c', e, w⟩⟩
theorem Sta.clear {i : Nat} (s : Sta G σ H S ts B F) : ∃ F', Sta G σ H (S.set i none) ts B F' ∧ Ch H B F H B F' := by
  cases q : (S[i]?).join with
  | none =>
    have e : S.set i none = S := by
      cases q2 : S[i]? with
      | none => exact List.set_eq_of_length_le (List.getElem?_eq_none_iff.mp q2)
      | some o =>
        rw [q2] at q
        have q : o = none := q
        subst q
        apply List.ext_getElem?
        intro j
        rw [List.getElem?_set]
        split
        · rename_i hj
          subst hj
          rw [q2, if_pos (List.getElem?_eq_some_iff.mp q2).1]
        · rfl
    rw [e]
    exact ⟨F, s, .refl⟩
  | some w =>
    obtain ⟨v, _, p⟩ := s.park (slot_some q)
    exact p.drop2
theorem OwnS.len (h : OwnS G B H σ S F) : S.length ≤ σ.length := by
  induction h with
  | nil => exact Nat.zero_le _
  | hole _ ih => exact Nat.succ_le_succ ih
  | put _ _ ih => exact Nat.succ_le_succ ih
theorem Sta.len (s : Sta G σ H S ts B F) : S.length ≤ σ.length := by
  obtain ⟨_, _, o1, _, _⟩ := s.own
  exact o1.len
/-- a held value goes into a slot -/
theorem Sta.store {i : Nat} {v : V} {w : W} (s : Sta G σ H S ((v, w) :: ts) B F) (hi : i < S.length) : ∃ F', Sta G (σ.set i (some v)) H (S.set i (some w)) ts B F' ∧ Ch H B F H B F' := by
  obtain ⟨F1, s1, c1⟩ := s.clear (i := i)
  have e : (S.set i none)[i]? = some none := by simp [hi]
  have s2 := s1.any (i := i) (o := some v) (.inl e)
  have hl := s.len
  have s3 := s2.unpark e (by simp [show i < σ.length from Nat.lt_of_lt_of_le hi hl])
  rw [List.set_set] at s3
  exact ⟨F1, s3, c1⟩
theorem take_set {i : Nat} {o : Option V} (h : P ≤ i) : (σ.set i o).take P = σ.take P := by
  rw [List.take_set_of_le]
  exact h
end
def mAsg (i : Nat) (f : M W) : MS := bindS f fun w => fun S => if i < S.length then some (.nx, S.set i (some w)) else none
/-- settled, then stored -/
def mAsgS (i : Nat) (f : M W) : MS := bindS f fun w => fun S => if i < S.length then some (.nx, S.set i (some (.fr w.toD))) else none
def mDrop (f : M W) : MS := bindS f fun _ => fun S => some (.nx, S)
def mRet (f : M W) : MS := bindS f fun w => fun S => some (.rt w, S)
def mRetN : MS := fun S => some (.rt (.fr .non), S)
def mIfS (c : M Bool) (f g : MS) : MS := bindS c fun b => if b = true then f else g
def mBreak : MS := fun S => some (.bk, S)
def mCont : MS := fun S => some (.ct, S)
def mMove (i : Nat) : M W := fun S => match (S[i]?).join with
  | some w => some (.ok w, S.set i none)
  | none => none
section
variable {T : Tx} {X : Cx} {Xw : WX} {P : Nat} {pos : Pos}
theorem pv_move (i : Nat) {x : Str} (hN : X.N[i]? = some x := by rfl) (hv : Vis X.env.scope x := by first | exact Or.inl rfl | exact Or.inr (Or.inl rfl) | exact Or.inr (Or.inr rfl)) (hd : (x == ("__debug__" : Str)) = false := by decide)
    (hcd : (x == ("__classdict__" : Str)) = false := by decide) : PV T X Xw (.Name x pos) (mMove i) :=
  peImp (pe_var hN hv hd hcd) fun σ H Q ⟨S, B, F, o, S', st, e, w⟩ => by
    unfold mMove at e
    split at e
    · rename_i w0 e0
      cases e
      obtain ⟨v, ev, p⟩ := st.park (slot_some e0)
      exact ⟨v, ev, w v H B F trivial p .refl⟩
    · cases e
theorem psl_nil : PSL T X Xw P [] mNext :=
  pssImp pss_nil fun D σ H ⟨S, B, F, o, S', st, e, w⟩ => by
    cases e
    exact w σ H B F st .refl rfl
theorem psl_cons {st : Stmt} {rest : List Stmt} {f g : MS} (h : PSV T X Xw P st f) (r : PSL T X Xw P rest g) : PSL T X Xw P (st :: rest) (mSeq f g) :=
  pssImp (pss_cons h r) fun D σ H ⟨S, B, F, o, S', st, e, w⟩ => by
    unfold mSeq at e
    cases e1 : f S with
    | none => rw [e1] at e; cases e
    | some q =>
      obtain ⟨fl, S1⟩ := q
      rw [e1] at e
      refine ⟨S, B, F, fl, S1, st, e1, ?_⟩
      cases fl with
      | nx => exact fun σ' H' B' F' st' c t => ⟨S1, B', F', o, S', st', e, w.later c t⟩
      | rt x => cases e; exact w
      | bk => cases e; exact w
      | ct => cases e; exact w
      | ex x => cases e; exact w
theorem psl_one {st : Stmt} {f : MS} (h : PSV T X Xw P st f) : PSL T X Xw P [st] f := pss_one h
theorem psv_pass : PSV T X Xw P (.Pass pos) mNext := psImp ps_pass fun D σ H ⟨S, B, F, o, S', st, e, w⟩ => by
  cases e
  exact w σ H B F st .refl rfl
theorem psv_break : PSV T X Xw P (.Break pos) mBreak := psImp ps_break fun D σ H ⟨S, B, F, o, S', st, e, w⟩ => by
  cases e
  exact w σ H B F st .refl rfl
theorem psv_continue : PSV T X Xw P (.Continue pos) mCont := psImp ps_continue fun D σ H ⟨S, B, F, o, S', st, e, w⟩ => by
  cases e
  exact w σ H B F st .refl rfl
theorem psv_asg {i : Nat} {x : Str} {e : Expr} {pos' : Pos} {f : M W} (hN : X.N.Nodup) (hi : X.N[i]? = some x) (hx : Loc X.env.scope x) (he : PV T X Xw e f) (hP : P ≤ i := by decide) (hs : swapsWith e (some (.Name x pos')) pos.line X.env = pure false := by rfl) (hf : X.fn x = true ∨ X.env.scope.names.lookup x = some .local := by first | exact .inl rfl | exact .inr rfl | assumption) :
    PSV T X Xw P (.Assign [.Name x pos'] e pos) (mAsg i f) :=
  psImp (ps_set hN hi hx he hs hf) fun D σ H h => by
    refine (h.step (k := kW)).mono fun v H1 ⟨w, B, F, B1, F1, S, o, S', _, st, c, e, wn⟩ => ?_
    split at e
    · rename_i hl
      cases e
      obtain ⟨F2, s2, c2⟩ := Sta.store (by simpa [kW] using st) hl
      exact wn _ H1 B1 F2 s2 (c.trans c2) (take_set hP)
    · cases e
theorem asgS_go {G : Gx} {D : Ends} {σ : St} {H : Hp} {f : M W} {i : Nat} (hP : P ≤ i) (h : rdS G P D σ H Xw (mAsgS i f)) : rdG kW G σ H Xw (fun v H1 => D.nx (σ.set i (some v)) H1) f :=
  (h.step (k := kW)).mono fun v H1 ⟨w, B, F, B1, F1, S, o, S', _, st, c, e, wn⟩ => by
    split at e
    · rename_i hl
      cases e
      obtain ⟨B2, F2, s2, c2⟩ := Sta.settle (by simpa [kW] using st)
      obtain ⟨F3, s3, c3⟩ := s2.store hl
      exact wn _ H1 B2 F3 s3 (c.trans (c2.trans c3)) (take_set hP)
    · cases e
theorem psv_asgS {i : Nat} {x : Str} {e : Expr} {pos' : Pos} {f : M W} (hN : X.N.Nodup) (hi : X.N[i]? = some x) (hx : Loc X.env.scope x) (he : PV T X Xw e f) (hP : P ≤ i := by decide) (hs : swapsWith e (some (.Name x pos')) pos.line X.env = pure false := by rfl) (hf : X.fn x = true ∨ X.env.scope.names.lookup x = some .local := by first | exact .inl rfl | exact .inr rfl | assumption) :
    PSV T X Xw P (.Assign [.Name x pos'] e pos) (mAsgS i f) :=
  psImp (ps_set hN hi hx he hs hf) fun D σ H h => asgS_go hP h
theorem psv_expr {e : Expr} {f : M W} (he : PV T X Xw e f) (hs : swapsWith e none pos.line X.env = pure false := by rfl) : PSV T X Xw P (.Expr e pos) (mDrop f) :=
  psImp (ps_expr he hs) fun D σ H h => by
    refine (h.step (k := kW)).mono fun v H1 ⟨w, B, F, B1, F1, S, o, S', _, st, c, e, wn⟩ => ?_
    cases e
    obtain ⟨F2, s2, c2⟩ := Sta.drop2 (ts := []) (by simpa [kW] using st)
    exact wn σ H1 B1 F2 s2 (c.trans c2) rfl
theorem psv_ret {e : Expr} {f : M W} (he : PV T X Xw e f) : PSV T X Xw P (.Return (some e) pos) (mRet f) :=
  psImp (ps_ret he) fun D σ H h => by
    refine (h.step (k := kW)).mono fun v H1 ⟨w, B, F, B1, F1, S, o, S', _, st, c, e, wn⟩ => ?_
    cases e
    exact wn v σ H1 B1 F1 (by simpa [kW] using st) c rfl
theorem psv_retN : PSV T X Xw P (.Return none pos) mRetN :=
  psImp ps_retN fun D σ H ⟨S, B, F, o, S', st, e, w⟩ => by
    cases e
    exact w .non σ H B F (st.old .non) .refl rfl
theorem psv_if {c : Expr} {a b : List Stmt} {t : M Bool} {f g : MS} (hc : PB T X Xw c t) (ha : PSL T X Xw P a f) (hb : PSL T X Xw P b g) : PSV T X Xw P (.If c a b pos) (mIfS t f g) :=
  psImp (ps_if hc ha hb) fun D σ H h => by
    refine (h.step (k := kB)).mono fun b' H1 ⟨b, B, F, B1, F1, S, o, S', kb, st, c, e, wn⟩ => ?_
    have kb : b = b' := kb
    subst kb
    cases b with
    | true => exact iteT ⟨S, B1, F1, o, S', st, e, wn.later c rfl⟩
    | false => exact iteF ⟨S, B1, F1, o, S', st, e, wn.later c rfl⟩
/-! ### raise -/
theorem psv_raise {e : Expr} {c : Exc} {t : L2.St → Hp → XK → Prop} (hc : X.calm = true) (tk : L2N.Takes X Xw) (he : L2N.PMk X e t)
    (ht : ∀ σ H Q, (∀ cls d, (∀ B, ExR (gx X T) B c cls d H) → Q cls d H) → t σ H Q) : PSV T X Xw P (.Raise (some e) none pos) (fun S => some (.ex c, S)) :=
  psImp (L2N.ps_raise hc tk he) fun D σ H ⟨S, B, F, o, S', st, e, w⟩ => by
    cases e
    exact ht σ H _ fun cls d xr => w cls d σ H B F st .refl rfl (xr B)
end
end VD

set_option Elab.async false
set_option linter.all false
set_option maxRecDepth 100000
set_option maxHeartbeats 2000000
namespace VD
open PySem PySem.Spec PyProof.Rows L2

/-! ### functions -/
abbrev Fn := List W → Option (Res W × List W)
section
variable {G : Gx} {σ σ' : St} {H H' : Hp} {S S' : Sl} {ts ts' : Tmp} {B B' : Hp} {F F' : List Addr}
/-- a step over held values alone, the slots apart -/
theorem Sta.join2 {F1 F2 F2' : List Addr} (s1 : Sta G [] H' [] ts' B' F2') (c : Ch H B F2 H' B' F2') (s2 : Sta G σ H S ts B F1) (p : F.Perm (F1 ++ F2)) (nd : F.Nodup) :
    Sta G σ H' S (ts' ++ ts) B' (F1 ++ F2') ∧ Ch H B F H' B' (F1 ++ F2') := by
  have nd1 := List.nodup_append.mp (p.nodup_iff.mp nd)
  have dj : ∀ a ∈ F1, a ∉ F2 := fun a h1 h2 => nd1.2.2 a h1 a h2 rfl
  have dj' : ∀ a ∈ F1, a ∉ F2' := fun a h1 h2 => (c.own a h2).elim (dj a h1) fun z => z (s2.live h1)
  obtain ⟨Fa, Fb, oa, ob, q⟩ := s1.own
  obtain ⟨Fc, Fd, oc, od, r⟩ := s2.own
  have ea : Fa = [] := by cases oa; rfl
  subst ea
  have kp : ∀ a ∈ Fc ++ Fd, ∀ o, H a = some o → H' a = some o := fun a ha o e => by
    have h1 : a ∈ F1 := r.mem_iff.mpr ha
    obtain ⟨o', e', n⟩ := s2.live h1
    rw [e] at e'; cases e'
    exact c.keep a o e n (dj a h1)
  refine ⟨⟨s1.sub, s1.tabs, ⟨Fc, Fb ++ Fd, oc.mono c.le fun a ha => kp a (List.mem_append_left _ ha), ob.app (od.mono c.le fun a ha => kp a (List.mem_append_right _ ha)), ?_⟩, ?_, fun a h => ?_⟩, ?_⟩
  · refine (r.append (by simpa using q)).trans ?_
    rw [List.append_assoc]
    exact List.perm_append_comm.append_left _
  · exact List.nodup_append.mpr ⟨s2.nd, s1.nd, fun a h1 b h2 e => dj' a h1 (e ▸ h2)⟩
  · rcases List.mem_append.mp h with h | h
    · cases q : B' a with
      | none => rfl
      | some o =>
        rcases c.fresh a o q with z | z | z
        · rw [s2.apart a h] at z; cases z
        · exact absurd z (dj a h)
        · exact absurd (s2.live h) z
    · exact s1.apart a h
  · exact c.wide (fun x h => p.mem_iff.mpr (List.mem_append_right _ h)) fun x h => (List.mem_append.mp h).symm.imp id fun h => p.mem_iff.mpr (List.mem_append_left _ h)
end
def spV (G : Gx) (F : Fn) : Sp := fun vs H Q E => ∃ ws B F0 o ws', ws.length = vs.length ∧ Sta G [] H [] (vs.zip ws) B F0 ∧ F ws = some (o, ws') ∧ match o with
  | .ok w => ∀ v H' B' F', Sta G [] H' [] ((v, w) :: vs.zip ws') B' F' → Ch H B F0 H' B' F' → Q v H'
  | .ex c => ∀ cls d H' B' F', Sta G [] H' [] (vs.zip ws') B' F' → Ch H B F0 H' B' F' → ExR G B' c cls d H' → E cls d H'
/-- the parameters as they stand in the end -/
def backs : Nat → Sl → Option (List W)
  | 0, _ => some []
  | n + 1, some w :: S => (backs n S).map (w :: ·)
  | _ + 1, _ => none
def mkF (N n : Nat) (m : MS) : Fn := fun ws => if ws.length = n then match m (ws.map some ++ List.replicate (N - n) none) with
  | some (.rt w, S') => (backs n S').map fun ws' => (.ok w, ws')
  | some (.nx, S') => (backs n S').map fun ws' => (.ok (.fr .non), ws')
  | some (.ex c, S') => (backs n S').map fun ws' => (.ex c, ws')
  | _ => none
  else none
section
variable {G : Gx} {σ σ' : St} {H H' : Hp} {S S' : Sl} {ts ts' : Tmp} {B B' : Hp} {F F' : List Addr}
theorem ownS_nones (σ : St) : ∀ n, n ≤ σ.length → OwnS G B H σ (List.replicate n none) [] := fun n => by
  induction n generalizing σ with
  | zero => intro _; exact .nil
  | succ n ih =>
    intro h
    cases σ with
    | nil => simp at h
    | cons o σ => exact .hole (ih σ (by simpa using h))
theorem ownS_of : ∀ {vs : List V} {ws : List W} {F : List Addr} {τ : St} {n : Nat}, OwnT G B H (vs.zip ws) F → ws.length = vs.length → n ≤ τ.length → OwnS G B H (vs.map some ++ τ) (ws.map some ++ List.replicate n none) F
  | [], [], F, τ, n, h, _, hn => by
    cases h
    exact ownS_nones τ n hn
  | v :: vs, w :: ws, F, τ, n, h, hl, hn => by
    cases h with
    | cons h r => exact .put h (ownS_of r (by simpa using hl) hn)
  | [], _ :: _, _, _, _, _, hl, _ => by simp at hl
  | _ :: _, [], _, _, _, _, hl, _ => by simp at hl
theorem Sta.enter {vs : List V} {ws : List W} {N : List Str} (s : Sta G [] H [] (vs.zip ws) B F) (hl : ws.length = vs.length) : Sta G (L2.start N vs) H (ws.map some ++ List.replicate (N.length - ws.length) none) [] B F := by
  obtain ⟨F1, F2, o1, o2, p⟩ := s.own
  have e1 : F1 = [] := by cases o1; rfl
  subst e1
  refine ⟨s.sub, s.tabs, ⟨F2, [], ownS_of o2 hl ?_, .nil, by simpa using p⟩, s.nd, s.apart⟩
  rw [hl, List.length_replicate]
  exact Nat.le_refl _
theorem ownS_back : ∀ {vs : List V} {ws : List W} {F : List Addr} {τ : St} {S : Sl}, OwnS G B H τ S F → τ.take vs.length = vs.map some → backs vs.length S = some ws → ∃ F1 F2, OwnT G B H (vs.zip ws) F1 ∧ F.Perm (F1 ++ F2) ∧ ws.length = vs.length
  | [], ws, F, τ, S, h, _, e => by
    cases e
    exact ⟨[], F, .nil, .refl _, rfl⟩
  | v :: vs, ws, F, τ, S, h, ht, e => by
    cases h with
    | nil => simp [backs] at e
    | hole h => simp [backs] at e
    | @put v' w σ S F F' h r =>
      have e : (backs vs.length S).map (w :: ·) = some ws := by simpa [backs] using e
      obtain ⟨ws', e1, rfl⟩ := Option.map_eq_some_iff.mp e
      have ht : some v' :: σ.take vs.length = some v :: vs.map some := by simpa using ht
      injection ht with h1 h2
      injection h1 with h1
      subst h1
      obtain ⟨F1, F2, o1, p, hl⟩ := ownS_back r h2 e1
      exact ⟨F ++ F1, F2, .cons h o1, by rw [List.append_assoc]; exact p.append_left _, by simp [hl]⟩
theorem Sta.leave {vs : List V} {ws : List W} {τ : St} (s : Sta G τ H S ts B F) (ht : τ.take vs.length = vs.map some) (e : backs vs.length S = some ws) : ∃ F', Sta G [] H [] (ts ++ vs.zip ws) B F' ∧ Ch H B F H B F' := by
  obtain ⟨F1, F2, o1, o2, p⟩ := s.own
  obtain ⟨Fa, Fb, oa, q, _⟩ := ownS_back o1 ht e
  have r : F.Perm ((F2 ++ Fa) ++ Fb) := p.trans ((q.append_right _).trans (by
    rw [List.append_assoc, List.append_assoc]
    refine (List.perm_append_comm (l₁ := Fa)).trans ?_
    rw [List.append_assoc]
    exact (List.perm_append_comm (l₁ := Fb)).trans (by rw [List.append_assoc])))
  have nd := List.nodup_append.mp (r.nodup_iff.mp s.nd)
  have mem : ∀ x ∈ F2 ++ Fa, x ∈ F := fun x h => r.mem_iff.mpr (List.mem_append_left _ h)
  exact ⟨F2 ++ Fa, ⟨s.sub, s.tabs, ⟨[], F2 ++ Fa, .nil, o2.app oa, .refl _⟩, nd.1, fun a h => s.apart a (mem a h)⟩, Ch.refl.wide (F := F) (fun _ h => h) fun x h => .inr (mem x h)⟩
end
section
variable {P : Program} {w : World} {K : PySem.W.Frag} {mg : Str → Option Value} {base : Heap} {T : Tx}
/-- THE RULE for a def -/
theorem fnV {x qual : Str} {params : Arguments} {body : List Stmt} {scope : Scope} {dvs : List V} {kws : List (Str × V)} {f : Addr} {fd : FuncData} {N ps : List Str} {k : Nat} {m : MS} (Fd : FunD K x qual params body scope dvs kws f fd) (Sc : FnScope N ps scope)
    (hbody : ∀ (cdv : Value) (A : Around) (outer : List Env) (s : Shared) (H : Hp) (E : XK), Room k (A.deeper (envOfC qual scope s.heap.objs.size f cdv)) →
      PSL T (cxOf (L2N.CX P w) P w K mg base N qual scope f cdv A outer s H E) (fun cls d _ H => E cls d H) ps.length body m) : FnOk P w K mg base (L2N.CX P w) (k + 1) f fd ps (spV ⟨K, mg, T⟩ (mkF N.length ps.length m)) := by
  have hlen : ∀ {ws : List W} {o ws'}, mkF N.length ps.length m ws = some (o, ws') → ws.length = ps.length := fun {ws o ws'} e => by
    unfold mkF at e
    split at e
    · assumption
    · cases e
  refine Fd.ok Sc (fun vs H Q E h => ?_) (fun cdv A outer s H vs Q E hr h => ?_)
  · obtain ⟨ws, B, F0, o, ws', hl, st, e, _⟩ := h
    rw [← hl]
    exact hlen e
  · obtain ⟨ws, B, F0, o, ws', hl, st, e, k⟩ := h
    have hw := hlen e
    refine ⟨_, hbody cdv A outer s H E hr, ?_⟩
    have en := st.enter (N := N) hl
    rw [hw] at en
    unfold mkF at e
    rw [if_pos hw] at e
    have tk : (L2.start N vs).take ps.length = vs.map some := by
      have h2 : ps.length = (vs.map some).length := by rw [List.length_map, ← hl, hw]
      unfold L2.start
      rw [h2, List.take_left]
    have hv : vs.length = ps.length := by rw [← hl, hw]
    cases e1 : m (ws.map some ++ List.replicate (N.length - ps.length) none) with
    | none => rw [e1] at e; cases e
    | some q =>
      obtain ⟨fl, S'⟩ := q
      rw [e1] at e
      refine ⟨_, B, F0, fl, S', en, e1, ?_⟩
      cases fl with
      | rt x =>
        obtain ⟨ws2, e2, e3⟩ := Option.map_eq_some_iff.mp e
        cases e3
        intro v σ' H' B' F' st' c t
        obtain ⟨F2, s2, c2⟩ := st'.leave (vs := vs) (by rw [hv]; exact t.trans tk) (by rw [hv]; exact e2)
        exact k v H' B' F2 s2 (c.trans c2)
      | nx =>
        obtain ⟨ws2, e2, e3⟩ := Option.map_eq_some_iff.mp e
        cases e3
        intro σ' H' B' F' st' c t
        obtain ⟨F2, s2, c2⟩ := (st'.old (v := .non) .non).leave (vs := vs) (by rw [hv]; exact t.trans tk) (by rw [hv]; exact e2)
        exact k .non H' B' F2 s2 (c.trans c2)
      | ex x =>
        obtain ⟨ws2, e2, e3⟩ := Option.map_eq_some_iff.mp e
        cases e3
        intro cls d σ' H' B' F' st' c t xr
        obtain ⟨F2, s2, c2⟩ := st'.leave (vs := vs) (by rw [hv]; exact t.trans tk) (by rw [hv]; exact e2)
        exact k cls d H' B' F2 s2 (c.trans c2) xr
      | bk => cases e
      | ct => cases e
end
/-! ### calls -/
def takeL : List Opd → Sl → Option (List W × Sl)
  | [], S => some ([], S)
  | .tmp w :: os, S => (takeL os S).map fun q => (w :: q.1, q.2)
  | .at i :: os, S => match (S[i]?).join with
    | some w => (takeL os (S.set i none)).map fun q => (w :: q.1, q.2)
    | none => none
def giveL : List Opd → List W → Sl → Option Sl
  | [], [], S => some S
  | .tmp _ :: os, _ :: ws, S => giveL os ws S
  | .at i :: os, w :: ws, S => match S[i]? with
    | some none => giveL os ws (S.set i (some w))
    | _ => none
  | _, _, _ => none
def mCallF (F : Fn) (f : M (List Opd)) : M W := bindM f fun os => fun S => match takeL os S with
  | some (ws, S1) => match F ws with
    | some (.ok w, ws') => (giveL os ws' S1).map fun S2 => (.ok w, S2)
    | some (.ex c, ws') => (giveL os ws' S1).map fun S2 => (.ex c, S2)
    | none => none
  | none => none
section
variable {G : Gx} {σ : St} {H : Hp} {B : Hp}
theorem Sta.takeL : ∀ {os : List Opd} {vs : List V} {ws : List W} {S S1 : Sl} {ts : Tmp} {F : List Addr}, Sta G σ H S (tmpsL os vs ++ ts) B F → OkL σ os vs → VD.takeL os S = some (ws, S1) → Sta G σ H S1 (vs.zip ws ++ ts) B F ∧ ws.length = vs.length
  | _, _, ws, S, S1, ts, F, s, .nil, e => by
    cases e
    exact ⟨s, rfl⟩
  | o :: os, v :: vs, ws, S, S1, ts, F, s, .cons k r, e => by
    cases o with
    | tmp w =>
      have e : (VD.takeL os S).map (fun q => (w :: q.1, q.2)) = some (ws, S1) := e
      obtain ⟨⟨ws', S2⟩, e1, e2⟩ := Option.map_eq_some_iff.mp e
      cases e2
      have s2 : Sta G σ H S (tmpsL os vs ++ ((v, w) :: ts)) B F := by
        have := s
        simpa [tmpsL, Opd.tmps] using this
      obtain ⟨s3, hl⟩ := Sta.takeL s2 r e1
      exact ⟨s3.turn (List.perm_middle), by simp [hl]⟩
    | «at» i =>
      have e : (match (S[i]?).join with
        | some w => (VD.takeL os (S.set i none)).map fun q => (w :: q.1, q.2)
        | none => none) = some (ws, S1) := e
      split at e
      · rename_i w e0
        obtain ⟨⟨ws', S2⟩, e1, e2⟩ := Option.map_eq_some_iff.mp e
        cases e2
        obtain ⟨v', ev, p⟩ := s.park (slot_some e0)
        have k : σ[i]? = some (some v) := k
        rw [k] at ev
        cases ev
        have s2 : Sta G σ H (S.set i none) (tmpsL os vs ++ ((v, w) :: ts)) B F := p.turn (by
          have e : tmpsL (Opd.at i :: os) (v :: vs) = tmpsL os vs := by simp [tmpsL, Opd.tmps]
          rw [e]
          exact List.perm_middle.symm)
        obtain ⟨s3, hl⟩ := Sta.takeL s2 r e1
        exact ⟨s3.turn (List.perm_middle), by simp [hl]⟩
      · cases e
theorem Sta.giveL : ∀ {os : List Opd} {vs : List V} {ws : List W} {S S2 : Sl} {ts : Tmp} {F : List Addr}, Sta G σ H S (vs.zip ws ++ ts) B F → OkL σ os vs → VD.giveL os ws S = some S2 → ∃ F', Sta G σ H S2 ts B F' ∧ Ch H B F H B F'
  | _, _, ws, S, S2, ts, F, s, .nil, e => by
    cases ws with
    | nil => cases e; exact ⟨F, s, .refl⟩
    | cons _ _ => simp [VD.giveL] at e
  | o :: os, v :: vs, ws, S, S2, ts, F, s, .cons k r, e => by
    cases ws with
    | nil => cases o <;> simp [VD.giveL] at e
    | cons w ws =>
      cases o with
      | tmp w0 =>
        have e : VD.giveL os ws S = some S2 := by simpa [VD.giveL] using e
        obtain ⟨F1, s1, c1⟩ := Sta.drop2 (show Sta G σ H S ((v, w) :: (vs.zip ws ++ ts)) B F from s)
        obtain ⟨F2, s2, c2⟩ := Sta.giveL s1 r e
        exact ⟨F2, s2, c1.trans c2⟩
      | «at» i =>
        unfold VD.giveL at e
        split at e
        · rename_i e0
          have s1 := Sta.unpark (show Sta G σ H S ((v, w) :: (vs.zip ws ++ ts)) B F from s) e0 k
          exact Sta.giveL s1 r e
        · cases e
end
section
variable {T : Tx} {X : Cx} {Xw : WX} {pos : Pos}
theorem call_go {F : Fn} {os : List Opd} {vs : List V} {σ : St} {H1 H B : Hp} {F0 : List Addr} {Q : VK} (ks : OkL σ os vs) (R : Run kW (gx X T) σ H B F0 Xw Q (tmpsL os vs) (fun S => match takeL os S with
    | some (ws, S1) => match F ws with
      | some (.ok w, ws') => (giveL os ws' S1).map fun S2 => (.ok w, S2)
      | some (.ex c, ws') => (giveL os ws' S1).map fun S2 => (.ex c, S2)
      | none => none
    | none => none) H1) : spV (gx X T) F vs H1 Q (WE Xw σ) := R.done fun S B1 F1 o S' st c e wn => by
  split at e
  · rename_i ws S1 et
    have st : Sta (gx X T) σ H1 S (tmpsL os vs ++ []) B1 F1 := by simpa using st
    obtain ⟨st, hl⟩ := st.takeL ks et
    have st : Sta (gx X T) σ H1 S1 ([] ++ vs.zip ws) B1 F1 := by simpa using st
    obtain ⟨Fa, Fb, s1, s2, p⟩ := st.split
    split at e
    · rename_i w ws' ef
      obtain ⟨S2, eg, e2⟩ := Option.map_eq_some_iff.mp e
      cases e2
      refine ⟨ws, B1, Fb, .ok w, ws', hl, s2, ef, fun v H' B' F' st' c' => ?_⟩
      obtain ⟨j1, j2⟩ := st'.join2 c' s1 p st.nd
      have j1 : Sta (gx X T) σ H' S1 (vs.zip ws' ++ [(v, w)]) B' (Fa ++ F') := j1.turn (by simpa using (List.perm_append_comm (l₁ := [(v, w)])))
      obtain ⟨F3, j3, c3⟩ := j1.giveL ks eg
      exact wn v H' B' F3 trivial j3 (c.trans (j2.trans c3))
    · rename_i x ws' ef
      obtain ⟨S2, eg, e2⟩ := Option.map_eq_some_iff.mp e
      cases e2
      refine ⟨ws, B1, Fb, .ex x, ws', hl, s2, ef, fun cls d H' B' F' st' c' xr => ?_⟩
      obtain ⟨j1, j2⟩ := st'.join2 c' s1 p st.nd
      obtain ⟨F3, j3, c3⟩ := j1.giveL ks eg
      exact wn cls d H' B' F3 j3 (c.trans (j2.trans c3)) xr
    · cases e
  · cases e
theorem pv_call {k : Nat} {f : Addr} {fd : FuncData} {ps : List Str} {F : Fn} {x : Str} {p : Pos} {e : Expr} {es : List Expr} {g : M (List Opd)} (tk : L2N.Takes X Xw) (Fo : FnOk X.prog X.w X.K X.mg X.base (L2N.CX X.prog X.w) k f fd ps (spV (gx X T) F)) (hr : Room k X.A) (hg : Gl X x) (hm : X.mg x = some (.ref f)) (hk : PySem.W.keepIn X.K (.ref f) = true) (hb : Binds X.K fd ps [])
    (ha : PAO T X Xw (e :: es) g) (hdb : (x == ("__debug__" : Str)) = false := by decide) (he : starEach (e :: es) X.env = (false, eval e X.env) :: starEach es X.env := by rfl) (hpl : (backTo pos (starEach es X.env)).any (·.1) = false := by rfl) :
    PV T X Xw (.Call (.Name x p) (e :: es) [] pos) (mCallF F g) :=
  peImp (pe_callS Fo hr hg hm hk hb (fun σ => L2N.passAt tk σ) ha hdb he hpl) fun σ H Q h => by
    obtain ⟨B, F0, R⟩ := h.start
    refine (R.step (k1 := kA)).mono fun vs H1 ⟨os, ks, R1⟩ => ?_
    exact call_go ks (by simpa [kA] using R1)
end
end VD

set_option Elab.async false
set_option linter.all false
set_option maxRecDepth 100000
set_option maxHeartbeats 2000000
namespace VD
open PySem PySem.Spec PyProof.Rows L2

/-! ### what is walked -/
/-- the iterator gives these items -/
def ItOk (G : Gx) (J : It) (B : Hp) (ds : List D) : Prop := ∀ B1 H1, Le B B1 → Sub B1 H1 → J.stop ds.length H1 ∧ ∀ i d, ds[i]? = some d → J.go i H1 ∧ ∀ x H2, J.yld i H1 x H2 →
  ∃ B2, Grow H1 H2 ∧ Le B1 B2 ∧ Sub B2 H2 ∧ (∀ a o, B2 a = some o → B1 a = some o ∨ ¬ Live H1 a) ∧ Rep G B2 d x
def rdI (G : Gx) (Xw : WX) (f : M (List D)) : TI := fun σ H R => ∃ S B F o S', Sta G σ H S [] B F ∧ f S = some (o, S') ∧ match o with
  | .ok ds => ∀ J H' B' F', Sta G σ H' S' [] B' F' → Ch H B F H' B' F' → ItOk G J B' ds → R J H'
  | .ex c => ∀ cls d H' B' F', Sta G σ H' S' [] B' F' → Ch H B F H' B' F' → ExR G B' c cls d H' → Xw cls d σ H'
def PIV (T : Tx) (X : Cx) (Xw : WX) (tg e : Expr) (f : M (List D)) : Prop := PI X tg e (rdI (gx X T) Xw f)
theorem piImp {X : Cx} {tg e : Expr} {t t' : TI} (h : PI X tg e t) (i : ∀ σ H R, t' σ H R → t σ H R) : PI X tg e t' := ⟨fun pins s σ H R I q => h.run pins s σ H R I (i σ H R q)⟩
theorem PI.or {X : Cx} {tg e : Expr} {t t' : TI} (h : PI X tg e t) (h' : PI X tg e t') : PI X tg e (fun σ H R => t σ H R ∨ t' σ H R) := ⟨fun pins s σ H R I q => q.elim (h.run pins s σ H R I) (h'.run pins s σ H R I)⟩
section
variable {G : Gx} {B H : Hp}
theorem itl_ok {a : Addr} {vs : List V} {ds : List D} (h : SqL G.K B a vs) (r : RepL G B ds vs) (inj : ∀ H, ∀ xs, SqL G.K H a xs → SqL G.K H a vs → xs = vs) : ItOk G (Itl G.K a) B ds := fun B1 H1 l s => by
  have q := sqL_sub s (sqL_le l h)
  refine ⟨⟨vs, q, by rw [r.length]; exact Nat.le_refl _⟩, fun i d e => ?_⟩
  obtain ⟨v, h1, h2⟩ := r.get e
  refine ⟨⟨vs, v, q, h1⟩, fun x H2 y => ?_⟩
  obtain ⟨rfl, y⟩ := y
  have e2 := y vs q
  rw [h1] at e2
  cases e2
  exact ⟨B1, .refl, Le.refl _, s, fun _ _ h => .inl h, h2.mono l⟩
end
/-- what a settled value gives item by item -/
def D.items : D → Option (List D)
  | .lst ds => some ds
  | .scr ns => some (ns.map .int)
  | .tup ds => some ds
  | .str s => some (s.cps.toList.map fun c => .str ⟨#[c]⟩)
  | _ => none
def mItems (f : M W) : M (List D) := bindM f fun w => fun S => w.toD.items.map fun ds => (.ok ds, S)
section
variable {G : Gx} {B H : Hp}
theorem itlr_ok {a : Addr} {vs : List V} {ds : List D} (h : SqL G.K B a vs) (r : RepL G B ds vs) : ItOk G (Itl G.K a) B ds := fun B1 H1 l s => by
  have q := sqL_sub s (sqL_le l h)
  refine ⟨⟨vs, q, by rw [r.length]; exact Nat.le_refl _⟩, fun i d e => ?_⟩
  obtain ⟨v, h1, h2⟩ := r.get e
  refine ⟨⟨vs, v, q, h1⟩, fun x H2 y => ?_⟩
  obtain ⟨rfl, y⟩ := y
  have e2 := y vs q
  rw [h1] at e2
  cases e2
  exact ⟨B1, .refl, Le.refl _, s, fun _ _ h => .inl h, h2.mono l⟩
theorem itt_ok {a : Addr} {vs : List V} {ds : List D} (h : SqT G.K B a vs) (r : RepL G B ds vs) : ItOk G (Itt G.K a) B ds := fun B1 H1 l s => by
  have q := sqT_sub s (sqT_le l h)
  refine ⟨⟨vs, q, by rw [r.length]; exact Nat.le_refl _⟩, fun i d e => ?_⟩
  obtain ⟨v, h1, h2⟩ := r.get e
  refine ⟨⟨vs, v, q, h1⟩, fun x H2 y => ?_⟩
  obtain ⟨rfl, y⟩ := y
  have e2 := y vs q
  rw [h1] at e2
  cases e2
  exact ⟨B1, .refl, Le.refl _, s, fun _ _ h => .inl h, h2.mono l⟩
theorem its_ok {x : Str} : ItOk G (Its x) B (x.cps.toList.map fun c => .str ⟨#[c]⟩) := fun B1 H1 l s => by
  refine ⟨by show x.cps.size ≤ _; simp, fun i d e => ?_⟩
  rw [List.getElem?_map] at e
  obtain ⟨c, e1, rfl⟩ := Option.map_eq_some_iff.mp e
  have e1 : x.cps[i]? = some c := by rw [← e1]; simp
  refine ⟨(Array.getElem?_eq_some_iff.mp e1).1, fun v H2 y => ?_⟩
  obtain ⟨rfl, c', e2, rfl⟩ := y
  rw [e1] at e2
  cases e2
  exact ⟨B1, .refl, Le.refl _, s, fun _ _ h => .inl h, .str⟩
theorem itr_ok {n : Nat} : ItOk G (Itr 0 n) B ((List.range n).map fun i => .int (i : Nat)) := fun B1 H1 l s => by
  refine ⟨by show n ≤ _; simp, fun i d e => ?_⟩
  rw [List.getElem?_map] at e
  obtain ⟨j, e1, rfl⟩ := Option.map_eq_some_iff.mp e
  obtain ⟨h1, h2⟩ := List.getElem?_eq_some_iff.mp e1
  have h3 : i < n := by simpa using h1
  have h4 : j = i := by rw [← h2]; simp
  subst h4
  refine ⟨h3, fun v H2 y => ?_⟩
  obtain ⟨rfl, rfl⟩ := y
  exact ⟨B1, .refl, Le.refl _, s, fun _ _ h => .inl h, by rw [Int.zero_add]; exact .int⟩
end
section
variable {T : Tx} {X : Cx} {Xw : WX} {pos : Pos}
theorem piv_any {tg e : Expr} {f : M W} (h : PV T X Xw e f) : PIV T X Xw tg e (mItems f) :=
  piImp (PI.or (pi_list (tg := tg) h) (PI.or (pi_tup (tg := tg) h) (pi_str (tg := tg) h))) fun σ H R ⟨S, B, F, o, S', st, e, w⟩ => by
    unfold mItems bindM at e
    cases e1 : f S with
    | none => rw [e1] at e; cases e
    | some q =>
      obtain ⟨r, S1⟩ := q
      rw [e1] at e
      cases r with
      | ex c =>
        cases e
        exact .inl ⟨S, B, F, _, _, st, e1, w⟩
      | ok x =>
        obtain ⟨ds, e2, e3⟩ := Option.map_eq_some_iff.mp e
        cases e3
        have go : ∀ {Q : VK}, (∀ v H' B' F', Rep (gx X T) B' x.toD v → Sta (gx X T) σ H' S' [] B' F' → Ch H B F H' B' F' → Q v H') → rdG kW (gx X T) σ H Xw Q f := by
          intro Q k
          refine ⟨S, B, F, _, S', st, e1, ?_⟩
          intro v H' B' F' _ st' c
          have st' : Sta (gx X T) σ H' S' [(v, x)] B' F' := st'
          obtain ⟨B2, F2, s2, c2⟩ := Sta.settle st'
          have r : Rep (gx X T) B2 x.toD v := (s2.held (List.mem_cons_self ..)).rep
          obtain ⟨F3, s3, c3⟩ := Sta.drop2 s2
          exact k v H' B2 F3 r s3 (c.trans (c2.trans c3))
        cases ex : x.toD with
        | lst xs =>
          rw [ex] at e2 go
          cases e2
          refine .inl (go fun v H' B' F' r st' c => ?_)
          cases r with
          | lst h r => exact ⟨_, rfl, ⟨_, sqL_sub st'.sub (SqL.of h)⟩, w _ H' B' F' st' c (itlr_ok (SqL.of h) r)⟩
        | scr xs =>
          rw [ex] at e2 go
          cases e2
          refine .inl (go fun v H' B' F' r st' c => ?_)
          cases r with
          | scr h => exact ⟨_, rfl, ⟨_, sqL_sub st'.sub h⟩, w _ H' B' F' st' c (itlr_ok h (rep_ints _))⟩
        | tup xs =>
          rw [ex] at e2 go
          cases e2
          refine .inr (.inl (go fun v H' B' F' r st' c => ?_))
          cases r with
          | tup h r => exact ⟨_, rfl, ⟨_, sqT_sub st'.sub h⟩, w _ H' B' F' st' c (itt_ok h r)⟩
        | str z =>
          rw [ex] at e2 go
          cases e2
          refine .inr (.inr (go fun v H' B' F' r st' c => ?_))
          cases r with
          | str => exact ⟨_, rfl, w _ H' B' F' st' c its_ok⟩
        | _ => rw [ex] at e2; cases e2
def mRange (f : M (List Opd)) : M (List D) := bindM f fun os => fun S => match getL S os with
  | some [.fr (.int j)] => if -(2 ^ 62) ≤ j ∧ j < 2 ^ 62 then some (.ok ((List.range j.toNat).map fun i => .int (i : Nat)), S) else none
  | _ => none
theorem piv_range {tg a : Expr} {p : Pos} {f : M (List Opd)} (hg : Gl X "range") (hm : X.mg "range" = none) (ha : PAO T X Xw [a] f) (hs : starEach [a] X.env = [(false, eval a X.env)] := by rfl) : PIV T X Xw tg (.Call (.Name "range" p) [a] [] pos) (mRange f) :=
  piImp (pi_range1 hg hm ha hs) fun σ H R ⟨S, B, F, o, S', st, e, w⟩ => by
    unfold mRange bindM at e
    cases e1 : f S with
    | none => rw [e1] at e; cases e
    | some q =>
      obtain ⟨r, S1⟩ := q
      rw [e1] at e
      cases r with
      | ex c =>
        cases e
        exact ⟨S, B, F, _, _, st, e1, w⟩
      | ok os =>
        dsimp only at e
        split at e
        · rename_i j ej
          split at e
          · rename_i hj
            cases e
            refine ⟨S, B, F, _, _, st, e1, fun vs H' B' F' ks st' c => ?_⟩
            obtain ⟨v, rfl, hv⟩ := (st'.opds (fun z hz => hz) ks ej).one
            obtain ⟨F2, s2, c2⟩ := Sta.drop (ts := []) st'
            exact ⟨j, by rw [hv.int], hj.1, hj.2, w _ H' B' F2 s2 (c.trans c2) itr_ok⟩
          · cases e
        · cases e
end
end VD

set_option Elab.async false
set_option linter.all false
set_option maxRecDepth 100000
set_option maxHeartbeats 2000000
namespace VD
open PySem PySem.Spec PyProof.Rows L2

/-! ### targets -/
abbrev Tgt := D → Sl → Option Sl
/-- two frames that differ at these slots alone -/
def Alike (sl : List Nat) (σ σ' : St) : Prop := σ'.length = σ.length ∧ ∀ i, i ∉ sl → σ'[i]? = σ[i]?
theorem Alike.refl {sl : List Nat} {σ : St} : Alike sl σ σ := ⟨rfl, fun _ _ => rfl⟩
theorem Alike.trans {sl : List Nat} {σ σ1 σ2 : St} (a : Alike sl σ σ1) (b : Alike sl σ1 σ2) : Alike sl σ σ2 := ⟨b.1.trans a.1, fun i h => (b.2 i h).trans (a.2 i h)⟩
theorem Alike.wide {sl sl' : List Nat} {σ σ1 : St} (a : Alike sl σ σ1) (h : ∀ i ∈ sl, i ∈ sl') : Alike sl' σ σ1 := ⟨a.1, fun i z => a.2 i fun y => z (h i y)⟩
theorem Alike.set {i : Nat} {σ : St} {o : Option V} : Alike [i] σ (σ.set i o) := ⟨by simp, fun j h => List.getElem?_set_ne (fun e => h (by simp [e]))⟩
theorem Alike.take {sl : List Nat} {σ σ' : St} {P : Nat} (a : Alike sl σ σ') (h : ∀ i ∈ sl, P ≤ i) : σ'.take P = σ.take P := by
  apply List.ext_getElem?
  intro j
  rw [List.getElem?_take, List.getElem?_take]
  split
  · exact a.2 j fun z => by have := h j z; omega
  · rfl
theorem wipe_out {σ : St} {i : Nat} : ∀ {is : List Nat}, i ∉ is → (L2.wipe σ is)[i]? = σ[i]?
  | [], _ => rfl
  | j :: is, h => by
    unfold L2.wipe
    have hj : j ≠ i := fun e => h (by rw [e]; exact List.mem_cons_self ..)
    rw [List.getElem?_set_ne hj]
    exact wipe_out fun z => h (List.mem_cons_of_mem _ z)
theorem wipe_in {σ : St} {i : Nat} : ∀ {is : List Nat}, i ∈ is → (L2.wipe σ is)[i]? = if i < σ.length then some none else none
  | j :: is, h => by
    unfold L2.wipe
    by_cases e : j = i
    · subst e
      rw [List.getElem?_set]
      simp [L2.wipe_length]
    · rw [List.getElem?_set_ne e]
      rcases List.mem_cons.mp h with h | h
      · exact absurd h.symm e
      · exact wipe_in h
theorem Alike.wipe {is : List Nat} {σ σ' : St} (a : Alike is σ σ') : L2.wipe σ' is = L2.wipe σ is := by
  apply List.ext_getElem?
  intro j
  by_cases h : j ∈ is
  · rw [wipe_in h, wipe_in h, a.1]
  · rw [wipe_out h, wipe_out h, a.2 j h]
theorem wipe_idem {is : List Nat} {σ : St} : L2.wipe (L2.wipe σ is) is = L2.wipe σ is := Alike.wipe ⟨L2.wipe_length σ is, fun _ h => wipe_out h⟩
/-- a target: what it does to the slots, by the item -/
structure PGV (T : Tx) (X : Cx) (P : List Nat) (tg : Expr) (g : TG) (b : Tgt) : Prop where
  pg : PG X tg g
  go : ∀ {σ : St} {H B : Hp} {F : List Addr} {S S' : Sl} {ts : Tmp} {d : D} {v : V} {Q : St → Hp → Prop}, Sta (gx X T) σ H S ts B F → Rep (gx X T) B d v → b d S = some S' →
    (∀ σ' F', Sta (gx X T) σ' H S' ts B F' → Ch H B F H B F' → Alike P σ σ' → Q σ' H) → g v σ H Q
structure PGsV (T : Tx) (X : Cx) (P : List Nat) (tgs : List Expr) (g : TGs) (b : List D → Sl → Option Sl) : Prop where
  pg : PGs X tgs g
  go : ∀ {σ : St} {H B : Hp} {F : List Addr} {S S' : Sl} {ts : Tmp} {ds : List D} {vs : List V} {Q : St → Hp → Prop}, Sta (gx X T) σ H S ts B F → RepL (gx X T) B ds vs → b ds S = some S' →
    (∀ σ' F', Sta (gx X T) σ' H S' ts B F' → Ch H B F H B F' → Alike P σ σ' → Q σ' H) → g vs σ H Q
def bName (i : Nat) : Tgt := fun d S => if i < S.length then some (S.set i (some (.fr d))) else none
def bNil : List D → Sl → Option Sl := fun ds S => match ds with
  | [] => some S
  | _ => none
def bCons (b : Tgt) (bs : List D → Sl → Option Sl) : List D → Sl → Option Sl := fun ds S => match ds with
  | d :: ds => match b d S with
    | some S1 => bs ds S1
    | none => none
  | [] => none
def bTup (n : Nat) (bs : List D → Sl → Option Sl) : Tgt := fun d S => match d with
  | .tup ds => if ds.length = n then bs ds S else none
  | _ => none
section
variable {T : Tx} {X : Cx} {pos : Pos}
theorem pgv_name {i : Nat} {x : Str} (hN : X.N.Nodup) (hi : X.N[i]? = some x) (hx : Loc X.env.scope x) (hf : X.fn x = true ∨ X.env.scope.names.lookup x = some .local := by first | exact .inl rfl | exact .inr rfl | assumption) : PGV T X [i] (.Name x pos) (gName i) (bName i) where
  pg := pg_name hN hi hx hf
  go := fun {σ H B F S S' ts d v Q} st r e k => by
    unfold bName at e
    split at e
    · rename_i hl
      cases e
      obtain ⟨F2, s2, c2⟩ := (st.old r).store hl
      exact k _ F2 s2 c2 .set
    · cases e
theorem pgsv_nil : PGsV T X [] [] gNil bNil where
  pg := pgs_nil
  go := fun {σ H B F S S' ts ds vs Q} st r e k => by
    cases r with
    | nil =>
      cases e
      exact ⟨rfl, k σ F st .refl .refl⟩
    | cons _ _ => cases e
theorem pgsv_cons {P P' : List Nat} {e : Expr} {es : List Expr} {g : TG} {gs : TGs} {b : Tgt} {bs : List D → Sl → Option Sl} (h : PGV T X P e g b) (r : PGsV T X P' es gs bs) (hs : (assignEach (e :: es) X.env).map (·.2) = assign e X.env :: (assignEach es X.env).map (·.2) := by rfl) : PGsV T X (P ++ P') (e :: es) (gCons g gs) (bCons b bs) where
  pg := pgs_cons h.pg r.pg hs
  go := fun {σ H B F S S' ts ds vs Q} st rp ee k => by
    cases rp with
    | nil => cases ee
    | @cons d v ds vs rd rl =>
      unfold bCons at ee
      dsimp only at ee
      split at ee
      · rename_i S1 e1
        refine ⟨v, vs, rfl, h.go st rd e1 fun σ' F' s1 c1 t1 => r.go s1 rl ee fun σ2 F2 s2 c2 t2 => k σ2 F2 s2 (c1.trans c2) ((t1.wide fun _ h => List.mem_append_left _ h).trans (t2.wide fun _ h => List.mem_append_right _ h))⟩
      · cases ee
theorem pgv_tup {P : List Nat} {es : List Expr} {k : Nat} {gs : TGs} {n : Nat} {bs : List D → Sl → Option Sl} (hc : X.calm = true) (h : PGsV T X P es gs bs) (hn : (assignEach es X.env).length = n := by rfl) (hst : (assignEach es X.env).findIdx? (·.1) = none := by rfl) : PGV T X P (.Tuple es k pos) (gTup X.K n gs) (bTup n bs) where
  pg := pg_tup hc h.pg hn hst
  go := fun {σ H B F S S' ts d v Q} st r e kk => by
    cases r with
    | @tup a xs vs hq rl =>
      unfold bTup at e
      dsimp only at e
      split at e
      · rename_i hl
        exact ⟨a, vs, rfl, sqT_sub st.sub hq, by rw [rl.length, hl], h.go st rl e kk⟩
      · cases e
    | _ => cases e
end
/-! ### for -/
def mForL (b : Tgt) (body : MS) : List D → MS
  | [] => fun S => some (.nx, S)
  | d :: ds => fun S => match b d S with
    | some S1 => match body S1 with
      | some (.nx, S2) => mForL b body ds S2
      | some (.ct, S2) => mForL b body ds S2
      | some (.bk, S2) => some (.nx, S2)
      | r => r
    | none => none
def mFor (f : M (List D)) (b : Tgt) (body : MS) : MS := bindS f fun ds => mForL b body ds
section
variable {G : Gx} {σ : St} {H H' : Hp} {S : Sl} {ts : Tmp} {B B' : Hp} {F : List Addr}
/-- the heap grows, the settled part with it -/
theorem Sta.up (s : Sta G σ H S ts B F) (g : Grow H H') (l : Le B B') (sb : Sub B' H') (fr : ∀ a o, B' a = some o → B a = some o ∨ ¬ Live H a) : Sta G σ H' S ts B' F ∧ Ch H B F H' B' F := by
  obtain ⟨h1, h2⟩ := s.more (v := .non) (w := .fr .non) (Fw := []) g l sb fr (.fr .non) (fun _ h => by cases h) (fun _ h => by cases h) List.nodup_nil
  have h1 : Sta G σ H' S ((.non, .fr .non) :: ts) B' F := by simpa using h1
  have h2 : Ch H B F H' B' F := by simpa using h2
  obtain ⟨F1, F2, o1, o2, p⟩ := h1.own
  cases o2 with
  | cons h r =>
    cases h with
    | fr _ => exact ⟨⟨h1.sub, h1.tabs, ⟨F1, _, o1, r, by simpa using p⟩, h1.nd, h1.apart⟩, h2⟩
end
section
variable {T : Tx} {X : Cx} {Xw : WX} {P : Nat} {pos : Pos}
theorem psv_for {sl : List Nat} {tg iter : Expr} {body : List Stmt} {f : M (List D)} {g : TG} {b : Tgt} {m : MS} (hp : PassesOwn (model X.prog X.w) X.A X.env X.xe) (hc : X.calm = true) (hi : PIV T X Xw tg iter f) (hg : PGV T X sl tg g b) (hb : PSL T X Xw P body m) (hP : ∀ i ∈ sl, P ≤ i := by decide)
    (hs : ∀ x, foldedSetIterable iter X.env x = pure x := by intro _; rfl) : PSV T X Xw P (.For tg iter body [] pos) (mFor f b m) :=
  psImp (ps_for hp hc hi hg.pg hb hs) fun Dn σ H ⟨S, B, F, o, S', st, e, w⟩ => by
    unfold mFor bindS at e
    cases e1 : f S with
    | none => rw [e1] at e; cases e
    | some q =>
      obtain ⟨r, S1⟩ := q
      rw [e1] at e
      cases r with
      | ex c =>
        cases e
        exact ⟨S, B, F, _, _, st, e1, fun cls d H' B' F' st' c' xr => w cls d σ H' B' F' st' c' rfl xr⟩
      | ok ds =>
        have e : mForL b m ds S1 = some (o, S') := e
        refine ⟨S, B, F, _, S1, st, e1, fun J H1 B1 F1 st1 c1 it => ?_⟩
        refine ⟨fun i k τ H2 => k = ds.length - i ∧ i ≤ ds.length ∧ ∃ S2 B2 F2, Sta (gx X T) τ H2 S2 [] B2 F2 ∧ Ch H B F H2 B2 F2 ∧ Le B1 B2 ∧ τ.take P = σ.take P ∧ mForL b m (ds.drop i) S2 = some (o, S'),
          ⟨ds.length, by simp, Nat.zero_le _, S1, B1, F1, st1, c1, Le.refl _, rfl, e⟩, ?_⟩
        rintro i k τ H2 ⟨rfl, hil, S2, B2, F2, st2, c2, l2, t2, e2⟩
        obtain ⟨hstop, hgo⟩ := it B2 H2 l2 st2.sub
        by_cases hlt : i < ds.length
        · have hd : ds[i]? = some ds[i] := List.getElem?_eq_getElem hlt
          rw [List.drop_eq_getElem_cons hlt] at e2
          obtain ⟨go1, yld1⟩ := hgo i _ hd
          refine .inr ⟨go1, fun τ' H' => ∃ S2 B2 F2, Sta (gx X T) τ' H' S2 [] B2 F2 ∧ Ch H B F H' B2 F2 ∧ Le B1 B2 ∧ τ'.take P = σ.take P ∧ mForL b m (ds.drop (i + 1)) S2 = some (o, S'), fun τ' H' q => ⟨ds.length - (i + 1), by omega, rfl, hlt, q⟩, fun x H3 y => ?_⟩
          obtain ⟨B3, gr, l3, sb3, fr3, rp⟩ := yld1 x H3 y
          obtain ⟨st3, c3⟩ := st2.up gr l3 sb3 fr3
          unfold mForL at e2
          split at e2
          · rename_i S3 eb
            refine hg.go st3 rp eb fun τ3 F3 st4 c4 a4 => ?_
            have t4 := a4.take hP
            have c5 := c2.trans (c3.trans c4)
            have l5 : Le B1 B3 := l2.trans l3
            cases em : m S3 with
            | none => rw [em] at e2; cases e2
            | some q =>
              obtain ⟨fl, S4⟩ := q
              rw [em] at e2
              refine ⟨S3, B3, F3, fl, S4, st4, em, ?_⟩
              cases fl with
              | nx => exact fun τ' H' B' F' st' c' t' => ⟨S4, B', F', st', c5.trans c', l5.trans c'.le, t'.trans (t4.trans t2), e2⟩
              | ct => exact fun τ' H' B' F' st' c' t' => ⟨S4, B', F', st', c5.trans c', l5.trans c'.le, t'.trans (t4.trans t2), e2⟩
              | bk =>
                cases e2
                exact fun τ' H' B' F' st' c' t' => w τ' H' B' F' st' (c5.trans c') (t'.trans (t4.trans t2))
              | rt z =>
                cases e2
                exact fun v τ' H' B' F' st' c' t' => w v τ' H' B' F' st' (c5.trans c') (t'.trans (t4.trans t2))
              | ex z =>
                cases e2
                exact fun cls d τ' H' B' F' st' c' t' => w cls d τ' H' B' F' st' (c5.trans c') (t'.trans (t4.trans t2))
          · cases e2
        · have hi' : i = ds.length := by omega
          subst hi'
          rw [List.drop_length] at e2
          cases e2
          exact .inl ⟨hstop, w τ H2 B2 F2 st2 c2 t2⟩
/-! ### while -/
def mWhile (t : M Bool) (body : MS) : Nat → MS
  | 0 => fun _ => none
  | n + 1 => bindS t fun c => if c = true then fun S => match body S with
      | some (.nx, S2) => mWhile t body n S2
      | some (.ct, S2) => mWhile t body n S2
      | some (.bk, S2) => some (.nx, S2)
      | r => r
    else fun S => some (.nx, S)
theorem psv_while {c : Expr} {body : List Stmt} {t : M Bool} {m : MS} (n : Nat) (hp : PassesOwn (model X.prog X.w) X.A X.env X.xe) (hc : PB T X Xw c t) (hb : PSL T X Xw P body m) : PSV T X Xw P (.While c body [] pos) (mWhile t m n) :=
  psImp (ps_while hp hc hb) fun Dn σ H h => by
    refine ⟨fun k τ H2 => rdS (gx X T) P Dn τ H2 Xw (mWhile t m k), ⟨n, h⟩, ?_⟩
    intro k τ H2 h
    cases k with
    | zero =>
      obtain ⟨S, B, F, o, S', st, e, w⟩ := h
      cases e
    | succ k =>
      refine (rdS.step (k := kB) h).mono fun b' H3 ⟨b, B0, F0, B3, F3, S3, o3, S4, kb, st3, c3, e3, wn⟩ => ?_
      have kb : b = b' := kb
      subst kb
      cases b with
      | false =>
        refine iteF ?_
        rw [if_neg Bool.false_ne_true] at e3
        cases e3
        exact wn τ H3 B3 F3 st3 c3 rfl
      | true =>
        refine iteT ⟨fun τ' H' => rdS (gx X T) P Dn τ' H' Xw (mWhile t m k), fun τ' H' q => ⟨k, Nat.lt_succ_self k, q⟩, ?_⟩
        rw [if_pos rfl] at e3
        cases em : m S3 with
        | none => rw [em] at e3; cases e3
        | some q =>
          obtain ⟨fl, S5⟩ := q
          rw [em] at e3
          refine ⟨S3, B3, F3, fl, S5, st3, em, ?_⟩
          cases fl with
          | nx => exact fun τ' H' B' F' st' c' t' => ⟨S5, B', F', o3, S4, st', e3, wn.later (c3.trans c') t'⟩
          | ct => exact fun τ' H' B' F' st' c' t' => ⟨S5, B', F', o3, S4, st', e3, wn.later (c3.trans c') t'⟩
          | bk =>
            cases e3
            exact fun τ' H' B' F' st' c' t' => wn τ' H' B' F' st' (c3.trans c') t'
          | rt z =>
            cases e3
            exact fun v τ' H' B' F' st' c' t' => wn v τ' H' B' F' st' (c3.trans c') t'
          | ex z =>
            cases e3
            exact fun cls d τ' H' B' F' st' c' t' => wn cls d τ' H' B' F' st' (c3.trans c') t'
/-- a step beside held values -/
theorem rdG.frame {α β : Type} {k : Kd α β} {G : Gx} {σ : St} {H B : Hp} {S S' : Sl} {ts : Tmp} {F : List Addr} {Q : β → Hp → Prop} {m : M α} {a : α} (st : Sta G σ H S ts B F) (e : m S = some (.ok a, S'))
    (kk : ∀ b H' B' F', k.ok σ a b → Sta G σ H' S' (k.tm a b ++ ts) B' F' → Ch H B F H' B' F' → Q b H') : rdG k G σ H Xw Q m := by
  obtain ⟨Fa, Fb, s1, s2, p⟩ := Sta.split (ts := []) st
  refine ⟨S, B, Fa, _, S', s1, e, fun b H' B' F' ok st' c' => ?_⟩
  obtain ⟨j1, j2⟩ := Sta.join st' c' s2 p st.nd
  exact kk b H' B' _ ok j1 j2
theorem ownL_fr {G : Gx} {B H : Hp} : ∀ {ds : List D} {vs : List V} {F : List Addr}, OwnL G B H (ds.map .fr) vs F → F = [] ∧ RepL G B ds vs
  | [], _, _, .nil => ⟨rfl, .nil⟩
  | d :: ds, _, _, .cons h r => by
    obtain ⟨e, r⟩ := ownL_fr r
    cases h with
    | fr h => exact ⟨by rw [e]; rfl, .cons h r⟩
theorem tabs_upd {T : List (Addr × Str)} {H : Hp} {D : Addr} {o o' : HO} (t : LamX.Tabs T H) (h : H D = some o) (n1 : ∀ ps, o ≠ HO.tbl ps) (n2 : ∀ φ, o ≠ HO.ext φ) : LamX.Tabs T (upd H D o') := fun p hp => by
  obtain ⟨ps, h1, h2, h3⟩ := t p hp
  refine ⟨ps, ?_, h2, fun pos cv hc => ?_⟩
  · rw [upd_ne (ne_of h1 h (fun z => n1 ps z.symm))]
    exact h1
  · obtain ⟨c, e1, e2⟩ := h3 pos cv hc
    refine ⟨c, e1, ?_⟩
    rw [upd_ne (ne_of e2 h (fun z => n2 _ z.symm))]
    exact e2
/-- an owned cell's content changes -/
theorem Sta.put {G : Gx} {σ : St} {H B : Hp} {S : Sl} {ts : Tmp} {F Fx : List Addr} {D : Addr} {w w' : W} {o o' : HO} (s : Sta G σ H S ((.ref D, w) :: ts) B F) (hD : H D = some o) (n1 : ∀ ps, o ≠ HO.tbl ps) (n2 : ∀ φ, o ≠ HO.ext φ)
    (inv : ∀ Fw, Own G B H w (.ref D) Fw → D ∈ Fw ∧ (∀ H', H' D = some o' → (∀ a ∈ Fw, a ≠ D → ∀ u, H a = some u → H' a = some u) → Own G B H' w' (.ref D) Fw)) :
    Sta G σ (upd H D o') S ((.ref D, w') :: ts) B F ∧ Ch H B F (upd H D o') B F := by
  obtain ⟨F1, F2, o1, o2, p⟩ := s.own
  cases o2 with
  | @cons _ _ _ Fa Fb h r =>
    obtain ⟨hm, mk⟩ := inv Fa h
    have hF : D ∈ F := p.mem_iff.mpr (List.mem_append_right _ (List.mem_append_left _ hm))
    have nd := List.nodup_append.mp (p.nodup_iff.mp s.nd)
    have nd2 := List.nodup_append.mp nd.2.1
    have n1' : ∀ a ∈ F1, a ≠ D := fun a ha z => nd.2.2 a ha D (List.mem_append_left _ hm) z
    have n2' : ∀ a ∈ Fb, a ≠ D := fun a ha z => nd2.2.2 D hm a ha z.symm
    have kp : ∀ a, a ≠ D → ∀ u, H a = some u → upd H D o' a = some u := fun a ha u e => by rw [upd_ne ha]; exact e
    refine ⟨⟨⟨fun a u e => ?_, s.sub.nt⟩, tabs_upd s.tabs hD n1 n2, ⟨F1, Fa ++ Fb, o1.mono (Le.refl _) fun a ha => kp a (n1' a ha), .cons (mk _ upd_same fun a _ hne => kp a hne) (r.mono (Le.refl _) fun a ha => kp a (n2' a ha)), p⟩, s.nd, s.apart⟩,
      ⟨fun a u e _ hf => kp a (fun z => hf (z ▸ hF)) u e, Le.refl _, fun _ h => .inl h, fun _ _ h => .inl h⟩⟩
    have ne : a ≠ D := fun z => by rw [z, s.apart D hF] at e; cases e
    rw [upd_ne ne]
    exact s.sub a u e
theorem Sta.putL {G : Gx} {σ : St} {H B : Hp} {S : Sl} {ts : Tmp} {F : List Addr} {D : Addr} {ds ds' : List VD.D} {vs' : List V} (s : Sta G σ H S ((.ref D, newL ds) :: ts) B F) (r : RepL G B ds' vs') :
    Sta G σ (upd H D (.lst vs')) S ((.ref D, newL ds') :: ts) B F ∧ Ch H B F (upd H D (.lst vs')) B F := by
  obtain ⟨Fw, ow⟩ := s.held (List.mem_cons_self ..)
  cases ow with
  | @lst a ws vs F0 hD ol =>
    refine s.put (Fx := []) hD (fun _ z => by cases z) (fun _ z => by cases z) fun Fw ow => ?_
    cases ow with
    | lst h2 ol2 =>
      obtain ⟨e, _⟩ := ownL_fr ol2
      subst e
      exact ⟨List.mem_cons_self .., fun H' e _ => .lst e r.own⟩
theorem OwnL.snoc {G : Gx} {B H : Hp} {w : W} {v : V} {Fa : List Addr} (o : Own G B H w v Fa) : ∀ {ws : List W} {vs : List V} {F : List Addr}, OwnL G B H ws vs F → OwnL G B H (ws ++ [w]) (vs ++ [v]) (F ++ Fa)
  | _, _, _, .nil => by
    have := OwnL.cons o (OwnL.nil (G := G) (B := B) (H := H))
    simpa using this
  | _, _, _, .cons h r => by
    rw [List.append_assoc]
    exact .cons h (OwnL.snoc o r)
/-- what is held goes to the end of a list that is held -/
theorem Sta.snoc {G : Gx} {σ : St} {H B : Hp} {S : Sl} {ts : Tmp} {F : List Addr} {D : Addr} {w : W} {y : V} {ws : List W} (s : Sta G σ H S ((y, w) :: (.ref D, .lst ws) :: ts) B F) :
    ∃ vs F', H D = some (.lst vs) ∧ vs.length = ws.length ∧ Sta G σ (upd H D (.lst (vs ++ [y]))) S ((.ref D, .lst (ws ++ [w])) :: ts) B F' ∧ Ch H B F (upd H D (.lst (vs ++ [y]))) B F' := by
  obtain ⟨F1, F2, o1, o2, p⟩ := s.own
  cases o2 with
  | @cons _ _ _ Fa _ h r =>
    cases r with
    | @cons _ _ _ Fd Fr h' r =>
      cases h' with
      | @lst _ _ vs Fx hD ol =>
        have q : F.Perm (F1 ++ ((D :: (Fx ++ Fa)) ++ Fr)) := p.trans (by
          refine List.Perm.append_left _ ?_
          rw [← List.append_assoc]
          refine List.Perm.append_right _ ?_
          refine (List.perm_append_comm (l₁ := Fa)).trans ?_
          exact .refl _)
        have nd := List.nodup_append.mp (q.nodup_iff.mp s.nd)
        have nd2 := List.nodup_append.mp nd.2.1
        have nd3 := List.nodup_cons.mp nd2.1
        have hF : D ∈ F := q.mem_iff.mpr (List.mem_append_right _ (List.mem_append_left _ (List.mem_cons_self ..)))
        have kp : ∀ a, a ≠ D → ∀ u, H a = some u → upd H D (.lst (vs ++ [y])) a = some u := fun a ha u e => by rw [upd_ne ha]; exact e
        have n1 : ∀ a ∈ F1, a ≠ D := fun a ha z => nd.2.2 a ha D (List.mem_append_left _ (List.mem_cons_self ..)) z
        have n2 : ∀ a ∈ Fr, a ≠ D := fun a ha z => nd2.2.2 D (List.mem_cons_self ..) a ha z.symm
        have n3 : ∀ a ∈ Fx, a ≠ D := fun a ha z => nd3.1 (z ▸ List.mem_append_left _ ha)
        have n4 : ∀ a ∈ Fa, a ≠ D := fun a ha z => nd3.1 (z ▸ List.mem_append_right _ ha)
        refine ⟨vs, F, hD, ol.length, ⟨⟨fun a u e => ?_, s.sub.nt⟩, tabs_upd s.tabs hD (fun _ z => by cases z) (fun _ z => by cases z), ⟨F1, (D :: (Fx ++ Fa)) ++ Fr, o1.mono (Le.refl _) fun a ha => kp a (n1 a ha),
          .cons (.lst upd_same (OwnL.snoc (h.mono (Le.refl _) fun a ha => kp a (n4 a ha)) (ol.mono (Le.refl _) fun a ha => kp a (n3 a ha)))) (r.mono (Le.refl _) fun a ha => kp a (n2 a ha)), q⟩, s.nd, s.apart⟩,
          ⟨fun a u e _ hf => kp a (fun z => hf (z ▸ hF)) u e, Le.refl _, fun _ h => .inl h, fun _ _ h => .inl h⟩⟩
        have ne : a ≠ D := fun z => by rw [z, s.apart D hF] at e; cases e
        rw [upd_ne ne]
        exact s.sub a u e
/-! ### list comprehensions -/
def wipeS (S : Sl) : List Nat → Sl
  | [] => S
  | i :: is => (wipeS S is).set i none
/-- the block's own names back as they were, where they were settled -/
def restS (S0 : Sl) (S : Sl) : List Nat → Sl
  | [] => S
  | i :: is => (restS S0 S is).set i (match S0[i]? with
    | some (some (.fr d)) => some (.fr d)
    | _ => ((restS S0 S is)[i]?).join)
theorem set_self (S : Sl) (i : Nat) : S.set i ((S[i]?).join) = S := by
  apply List.ext_getElem?
  intro j
  rw [List.getElem?_set]
  split
  · rename_i h
    subst h
    split
    · rename_i hl
      rw [List.getElem?_eq_getElem hl]
      rfl
    · rename_i hl
      exact (List.getElem?_eq_none_iff.mpr (Nat.le_of_not_lt hl)).symm
  · rfl
def mCompL (own : List Nat) (b : Tgt) (c : M Bool) (f : M W) : List D → Sl → Option (List W × Sl)
  | [], S => some ([], S)
  | d :: ds, S => match b d S with
    | none => none
    | some S1 => match c S1 with
      | some (.ok true, S2) => match f S2 with
        | some (.ok w, S3) => (mCompL own b c f ds (wipeS S3 own)).map fun q => (w :: q.1, q.2)
        | _ => none
      | some (.ok false, S2) => mCompL own b c f ds (wipeS S2 own)
      | _ => none
def mComp (own : List Nat) (fi : M (List D)) (b : Tgt) (c : M Bool) (f : M W) : M W := bindM fi fun ds => fun S => if ds.length ≤ sizeLine then
    (mCompL own b c f ds (wipeS S own)).map fun q => (.ok (.lst q.1), restS S q.2 own)
  else none
section
variable {G : Gx} {σ : St} {H H' : Hp} {S S0 : Sl} {ts : Tmp} {B B' : Hp} {F : List Addr}
theorem Sta.wipe (s : Sta G σ H S ts B F) : ∀ is : List Nat, ∃ F', Sta G (L2.wipe σ is) H (wipeS S is) ts B F' ∧ Ch H B F H B F'
  | [] => ⟨F, s, .refl⟩
  | i :: is => by
    obtain ⟨F1, s1, c1⟩ := Sta.wipe s is
    obtain ⟨F2, s2, c2⟩ := s1.clear (i := i)
    have e : ((wipeS S is).set i none)[i]? = some none ∨ ((wipeS S is).set i none)[i]? = none := by
      by_cases h : i < (wipeS S is).length
      · left; simp [h]
      · right; simp; omega
    exact ⟨F2, s2.any e, c1.trans c2⟩
theorem wipeS_len (S : Sl) : ∀ is, (wipeS S is).length = S.length
  | [] => rfl
  | i :: is => by unfold wipeS; rw [List.length_set, wipeS_len S is]
/-- a slot may be let go -/
theorem Sta.less (s : Sta G σ H S ts B F) (i : Nat) : ∃ F', Sta G σ H (S.set i none) ts B F' ∧ Ch H B F H B F' := s.clear
theorem OwnS.cong (h : OwnS G B H σ S F) : ∀ {τ : St}, (∀ (i : Nat) (w : W), S[i]? = some (some w) → τ[i]? = σ[i]?) → S.length ≤ τ.length → OwnS G B H τ S F := by
  induction h with
  | nil => intro τ _ _; exact .nil
  | hole h ih =>
    intro τ k hl
    cases τ with
    | nil => simp at hl
    | cons o τ => exact .hole (ih (fun i w e => by simpa using k (i + 1) w (by simpa using e)) (by simpa using hl))
  | put h r ih =>
    intro τ k hl
    cases τ with
    | nil => simp at hl
    | cons o τ =>
      have e := k 0 _ rfl
      have e : some o = some (some _) := e
      cases e
      exact .put h (ih (fun i w e => by simpa using k (i + 1) w (by simpa using e)) (by simpa using hl))
theorem wipeS_in {S : Sl} {i : Nat} : ∀ {is : List Nat}, i ∈ is → ((wipeS S is)[i]?).join = none
  | j :: is, h => by
    unfold wipeS
    by_cases e : j = i
    · subst e
      by_cases hl : j < (wipeS S is).length
      · rw [List.getElem?_set_self hl]; rfl
      · rw [List.getElem?_eq_none (by simpa using hl)]; rfl
    · rw [List.getElem?_set_ne e]
      rcases List.mem_cons.mp h with h | h
      · exact absurd h.symm e
      · exact wipeS_in h
theorem wipe_len {σ : St} (is : List Nat) : (L2.wipe σ is).length = σ.length := L2.wipe_length σ is
/-- back from the wiped slots -/
theorem Sta.unwipe {is : List Nat} (s : Sta G (L2.wipe σ is) H S ts B F) (h : ∀ i ∈ is, (S[i]?).join = none) : Sta G σ H S ts B F := by
  obtain ⟨F1, F2, o1, o2, p⟩ := s.own
  refine ⟨s.sub, s.tabs, ⟨F1, F2, OwnS.cong o1 (fun i w e => ?_) ?_, o2, p⟩, s.nd, s.apart⟩
  · refine (wipe_out fun hi => ?_).symm
    have := h i hi
    rw [e] at this
    cases this
  · have := s.len
    rwa [wipe_len] at this
theorem Sta.rest {is : List Nat} (s : Sta G σ H S ts B F) (h : ∀ i ∈ is, ∀ d, S0[i]? = some (some (.fr d)) → ∃ v, σ[i]? = some (some v) ∧ Rep G B d v) : ∃ F', Sta G σ H (restS S0 S is) ts B F' ∧ Ch H B F H B F' := by
  induction is with
  | nil => exact ⟨F, s, .refl⟩
  | cons i is ih =>
    obtain ⟨F1, s1, c1⟩ := ih fun j hj => h j (List.mem_cons_of_mem _ hj)
    unfold restS
    split
    · rename_i d e
      obtain ⟨v, ev, r⟩ := h i (List.mem_cons_self ..) d e
      obtain ⟨F2, s2, c2⟩ := s1.clear (i := i)
      by_cases hl : i < (restS S0 S is).length
      · have s3 := (s2.old r).unpark (i := i) (by simp [hl]) ev
        rw [List.set_set] at s3
        exact ⟨F2, s3, c1.trans c2⟩
      · rw [List.set_eq_of_length_le (by omega)]
        exact ⟨F1, s1, c1⟩
    · rw [set_self]
      exact ⟨F1, s1, c1⟩
end
def PBs (T : Tx) (X : Cx) (Xw : WX) (ifs : List Expr) (f : M Bool) : Prop := PTs X ifs fun σ H Q => rdG kB (gx X T) σ H Xw Q f
theorem pbs_nil {X : Cx} : PBs T X Xw [] (pureM true) := ⟨fun pins s σ H Q I ⟨S, B, F, o, S', st, e, w⟩ => by
  refine pts_nil.run pins s σ H Q I ?_
  cases e
  exact w true H B F rfl st .refl⟩
theorem pbs_one {X : Cx} {c : Expr} {f : M Bool} (h : PB T X Xw c f) : PBs T X Xw [c] f := pts_one h
/-- nothing is let out -/
abbrev X0 : WX := fun _ _ _ _ => False
theorem comp_go {σ : St} {H : Hp} {Q : VK} {fi : M (List D)} {own : List Nat} {g : TG} {b : Tgt} {tc : M Bool} {f : M W}
    (hg : ∀ {σ : St} {H B : Hp} {F : List Addr} {S S' : Sl} {ts : Tmp} {d : D} {v : V} {Q : St → Hp → Prop}, Sta (gx X T) σ H S ts B F → Rep (gx X T) B d v → b d S = some S' →
      (∀ σ' F', Sta (gx X T) σ' H S' ts B F' → Ch H B F H B F' → Alike own σ σ' → Q σ' H) → g v σ H Q)
    (h : rdG kW (gx X T) σ H Xw Q (mComp own fi b tc f)) :
    tLc (rdI (gx X T) Xw fi) g (fun σ H Q => rdG kB (gx X T) σ H X0 Q tc) (fun σ H Q => rdG kW (gx X T) σ H X0 Q f) own σ H Q := by
  obtain ⟨S, B, F, o, S', st, e, w⟩ := h
  unfold mComp bindM at e
  cases e1 : fi S with
  | none => rw [e1] at e; cases e
  | some q =>
    obtain ⟨r, S1⟩ := q
    rw [e1] at e
    cases r with
    | ex c =>
      cases e
      exact ⟨S, B, F, _, _, st, e1, w⟩
    | ok ds =>
      dsimp only at e
      split at e
      · rename_i hz
        obtain ⟨⟨out, S9⟩, e2, e3⟩ := Option.map_eq_some_iff.mp e
        cases e3
        refine ⟨S, B, F, _, S1, st, e1, fun J H1 B1 F1 st1 c1 it D hD => ?_⟩
        -- the new list
        obtain ⟨F2, s2, c2⟩ := st1.wipe own
        have gr : Grow H1 (upd H1 D (.lst [])) := .new hD
        obtain ⟨s3, c3⟩ := s2.more (v := .ref D) (w := .lst []) (Fw := [D]) gr (Le.refl _) (s2.sub.grow gr) (fun _ _ h => .inl h) (Own.lst upd_same .nil) (fun a m => by rw [List.mem_singleton.mp m]; exact not_live hD) (fun a m => by rw [List.mem_singleton.mp m]; exact fresh_b s2.sub hD) (by simp)
        have c4 := c1.trans (c2.trans c3)
        refine ⟨fun i k H4 => k = ds.length - i ∧ i ≤ ds.length ∧ ∃ S4 B4 F4 acc more, Sta (gx X T) (L2.wipe σ own) H4 S4 [(.ref D, .lst acc)] B4 F4 ∧ Ch H B F H4 B4 F4 ∧ Le B1 B4 ∧ (∀ j ∈ own, (S4[j]?).join = none) ∧ acc.length ≤ i ∧ out = acc ++ more ∧
          mCompL own b tc f (ds.drop i) S4 = some (more, S9), ⟨ds.length, by simp, Nat.zero_le _, _, B1, _, [], out, s3, c4, Le.refl _, fun j hj => wipeS_in hj, Nat.le_refl _, rfl, e2⟩, ?_⟩
        rintro i k H4 ⟨rfl, hil, S4, B4, F4, acc, more, st4, c5, l4, hw4, hacc, hout, e4⟩
        obtain ⟨hstop, hgo⟩ := it B4 H4 l4 st4.sub
        by_cases hlt : i < ds.length
        · have hd : ds[i]? = some ds[i] := List.getElem?_eq_getElem hlt
          rw [List.drop_eq_getElem_cons hlt] at e4
          obtain ⟨go1, yld1⟩ := hgo i _ hd
          refine .inr ⟨go1, fun H' => ∃ S4 B4 F4 acc more, Sta (gx X T) (L2.wipe σ own) H' S4 [(.ref D, .lst acc)] B4 F4 ∧ Ch H B F H' B4 F4 ∧ Le B1 B4 ∧ (∀ j ∈ own, (S4[j]?).join = none) ∧ acc.length ≤ i + 1 ∧ out = acc ++ more ∧
            mCompL own b tc f (ds.drop (i + 1)) S4 = some (more, S9), fun H' q => ⟨ds.length - (i + 1), by omega, rfl, hlt, q⟩, fun x H5 y => ?_⟩
          obtain ⟨B5, gr5, l5, sb5, fr5, rp⟩ := yld1 x H5 y
          obtain ⟨st5, c6⟩ := st4.up gr5 l5 sb5 fr5
          unfold mCompL at e4
          split at e4
          · cases e4
          · rename_i S5 eb
            refine hg st5 rp eb fun τ F6 st6 c7 al => ⟨(al.wipe).trans wipe_idem, ?_⟩
            have c8 := c5.trans (c6.trans c7)
            have hwt : L2.wipe τ own = L2.wipe σ own := (al.wipe).trans wipe_idem
            -- back to the turn's start
            have again : ∀ {S7 : Sl} {H7 B7 : Hp} {F7 : List Addr} {acc' more' : List W}, Sta (gx X T) τ H7 S7 [(.ref D, .lst acc')] B7 F7 → Ch H B F H7 B7 F7 → Le B1 B7 → acc'.length ≤ i + 1 → out = acc' ++ more' → mCompL own b tc f (ds.drop (i + 1)) (wipeS S7 own) = some (more', S9) →
                ∃ S4 B4 F4 acc more, Sta (gx X T) (L2.wipe σ own) H7 S4 [(.ref D, .lst acc)] B4 F4 ∧ Ch H B F H7 B4 F4 ∧ Le B1 B4 ∧ (∀ j ∈ own, (S4[j]?).join = none) ∧ acc.length ≤ i + 1 ∧ out = acc ++ more ∧ mCompL own b tc f (ds.drop (i + 1)) S4 = some (more, S9) := by
              intro S7 H7 B7 F7 acc' more' st7 c9 l7 ha ho he
              obtain ⟨F8, s8, c10⟩ := st7.wipe own
              rw [hwt] at s8
              exact ⟨_, B7, F8, acc', more', s8, c9.trans c10, l7, fun j hj => wipeS_in hj, ha, ho, he⟩
            split at e4
            · rename_i S6 et
              split at e4
              · rename_i wv S7 ef
                obtain ⟨⟨more2, S10⟩, e5, e6⟩ := Option.map_eq_some_iff.mp e4
                cases e6
                refine rdG.frame (k := kB) st6 et fun b' H6 B6 F7 kb st7 c9 => ?_
                have kb : true = b' := kb
                subst kb
                refine iteT ?_
                have st7 : Sta (gx X T) τ H6 S6 [(.ref D, .lst acc)] B6 F7 := st7
                refine rdG.frame (k := kW) st7 ef fun yv H7 B7 F8 _ st8 c10 => ?_
                have st8 : Sta (gx X T) τ H7 S7 [(yv, wv), (.ref D, .lst acc)] B7 F8 := st8
                obtain ⟨vs, F9, hD2, hlen, st11, c13⟩ := st8.snoc
                have cc := c8.trans (c9.trans (c10.trans c13))
                refine ⟨vs, hD2, by rw [hlen]; omega, ?_⟩
                exact again (acc' := acc ++ [wv]) (more' := more2) st11 cc (l4.trans (l5.trans (c7.le.trans (c9.le.trans (c10.le.trans c13.le))))) (by simp; omega) (by rw [hout]; simp) e5
              · cases e4
            · rename_i S6 et
              refine rdG.frame (k := kB) st6 et fun b' H6 B6 F7 kb st7 c9 => ?_
              have kb : false = b' := kb
              subst kb
              refine iteF ?_
              exact again (acc' := acc) (more' := more) st7 (c8.trans c9) (l4.trans (l5.trans (c7.le.trans c9.le))) (by omega) hout e4
            · cases e4
        · have hi' : i = ds.length := by omega
          subst hi'
          rw [List.drop_length] at e4
          cases e4
          refine .inl ⟨hstop, ?_⟩
          have s5 := st4.unwipe hw4
          obtain ⟨F7, s6, c8⟩ := s5.rest (S0 := S1) (is := own) fun j hj d ej => by
            obtain ⟨v, ev, p⟩ := st1.park ej
            exact ⟨v, ev, ((p.held (List.mem_cons_self ..)).rep).mono l4⟩
          rw [List.append_nil] at hout
          subst hout
          exact w (.ref D) H4 B4 F7 trivial s6 (c5.trans c8)
      · cases e
theorem pv_comp {elt tg iter : Expr} {ifs : List Expr} {scope : Scope} {own : List (Str × Nat)} {sl : List Nat} {g : TG} {b : Tgt} {fi : M (List D)} {tc : M Bool} {f : M W} (hc : X.calm = true) (hN : X.N.Nodup) (hi : PIV T X Xw tg iter fi) (ok : BlkOk X.N X.env.scope scope own)
    (hg : ∀ (s : Shared) (H : Hp) (C : Addr) (cl : List (Str × Addr)) (fp : List Addr), PGV T (X.blk s H scope (compEnvC scope cl C X.env) fp) sl tg g b)
    (ht : ∀ (s : Shared) (H : Hp) (C : Addr) (cl : List (Str × Addr)) (fp : List Addr), PBs T (X.blk s H scope (compEnvC scope cl C X.env) fp) X0 ifs tc)
    (he : ∀ (s : Shared) (H : Hp) (C : Addr) (cl : List (Str × Addr)) (fp : List Addr), PV T (X.blk s H scope (compEnvC scope cl C X.env) fp) X0 elt f)
    (hsl : ∀ i ∈ sl, i ∈ own.map (·.2) := by decide) (hs : ∀ x, foldedSetIterable iter X.env x = pure x := by intro _; rfl) :
    PV T X Xw (.ListComp elt [⟨tg, iter, ifs, 0⟩] scope pos) (mComp (own.map (·.2)) fi b tc f) :=
  peImp (pe_lc (tt := fun σ H Q => rdG kB (gx X T) σ H X0 Q tc) (te := fun σ H Q => rdG kW (gx X T) σ H X0 Q f) hc hN hi ok (fun s H C cl fp => (hg s H C cl fp).pg) ht he hs) fun σ H Q h =>
    comp_go (fun {σ H B F S S' ts d v Q} st r e k => (hg {} H 0 [] []).go st r e fun σ' F' s c a => k σ' F' s c (a.wide hsl)) h
theorem psv_asgLc {i : Nat} {y : Str} {py spos : Pos} {elt tg iter : Expr} {ifs : List Expr} {scope : Scope} {own : List (Str × Nat)} {sl : List Nat} {g : TG} {b : Tgt} {fi : M (List D)} {tc : M Bool} {f : M W} (hc : X.calm = true) (hN : X.N.Nodup) (hy : X.N[i]? = some y) (hyl : X.env.scope.names.lookup y = some .local)
    (hsw : swapsWith (.ListComp elt [⟨tg, iter, ifs, 0⟩] scope pos) (some (.Name y py)) spos.line X.env = pure true) (hi : PIV T X Xw tg iter fi) (ok : BlkOk X.N X.env.scope scope own)
    (hg : ∀ (s : Shared) (H : Hp) (C : Addr) (cl : List (Str × Addr)) (fp : List Addr), PGV T (X.blk s H scope (compEnvC scope cl C X.env) fp) sl tg g b)
    (ht : ∀ (s : Shared) (H : Hp) (C : Addr) (cl : List (Str × Addr)) (fp : List Addr), PBs T (X.blk s H scope (compEnvC scope cl C X.env) fp) X0 ifs tc)
    (he : ∀ (s : Shared) (H : Hp) (C : Addr) (cl : List (Str × Addr)) (fp : List Addr), PV T (X.blk s H scope (compEnvC scope cl C X.env) fp) X0 elt f)
    (hP : P ≤ i := by decide) (hsl : ∀ i ∈ sl, i ∈ own.map (·.2) := by decide) (hs : ∀ x, foldedSetIterable iter X.env x = pure x := by intro _; rfl) :
    PSV T X Xw P (.Assign [.Name y py] (.ListComp elt [⟨tg, iter, ifs, 0⟩] scope pos) spos) (mAsgS i (mComp (own.map (·.2)) fi b tc f)) :=
  psImp (ps_setLc (tt := fun σ H Q => rdG kB (gx X T) σ H X0 Q tc) (te := fun σ H Q => rdG kW (gx X T) σ H X0 Q f) hc hN hy hyl hsw hi ok (fun s H C cl fp => (hg s H C cl fp).pg) ht he hs) fun Dn σ H h => by
    exact comp_go (fun {σ H B F S S' ts d v Q} st r e k => (hg {} H 0 [] []).go st r e fun σ' F' s c a => k σ' F' s c (a.wide hsl)) (asgS_go hP h)
end
end VD

set_option Elab.async false
set_option linter.all false
set_option maxRecDepth 100000
set_option maxHeartbeats 2000000
namespace VD
open PySem PySem.Spec PyProof.Rows L2

/-! ### built-in functions -/
section
variable {G : Gx} {B H : Hp}
theorem CallW.or {r r' : List V → Hp → VK → Prop} {rv : List W → Option W} (h : ∀ {B H : Hp} {ws : List W} {vs : List V} {w : W} {Q : VK}, Sub B H → VwL G B H ws vs → rv ws = some w → New G B H w Q → r vs H Q ∨ r' vs H Q) : CallW G (fun vs H Q => r vs H Q ∨ r' vs H Q) rv := ⟨h⟩
/-- len of a list, a tuple, a text -/
def rvLenS : List W → Option W := one fun w => match w with
  | .fr (.dct _) => none
  | .dct _ => none
  | w => w.len.map fun (n : Nat) => .fr (.int (n : Int))
def rvLenD : List W → Option W := one fun w => match w.asD with
  | some kvs => some (.fr (.int kvs.length))
  | none => none
theorem cwLen : CallW G (fun xs H Q => ∃ x n, xs = [x] ∧ LenV G.K x H n ∧ Q (.int n) H) rvLenS := ⟨fun {B H ws vs w Q} s vl e0 n => by
  obtain ⟨x, rfl, e⟩ := one_inv e0
  clear e0
  obtain ⟨v, rfl, vw⟩ := vl.one
  have go : x.len.map (fun (n : Nat) => W.fr (.int (n : Int))) = some w → (∀ k, x ≠ .fr (.dct k)) → (∀ k, x ≠ .dct k) → ∃ y n, [v] = [y] ∧ LenV G.K y H n ∧ Q (.int n) H := fun e h1 h2 => by
    obtain ⟨k, e1, rfl⟩ := Option.map_eq_some_iff.mp e
    clear e
    rcases len_go s vw e1 with h | ⟨a, kvs, rfl, h3, hk⟩
    · exact ⟨v, k, rfl, h, n.int s⟩
    · obtain ⟨F, o⟩ := vw
      cases o with
      | fr r =>
        cases r with
        | dct _ _ => exact absurd rfl (h1 _)
        | tup h _ =>
          refine ⟨_, _, rfl, ?_, n.int s⟩
          cases e1
          exact .inr ⟨_, sqT_sub s h, (RepL.length (by assumption)).symm⟩
        | lst h r =>
          refine ⟨_, _, rfl, ?_, n.int s⟩
          cases e1
          exact .inl ⟨_, sqL_sub s (SqL.of h), r.length.symm⟩
        | scr h =>
          refine ⟨_, _, rfl, ?_, n.int s⟩
          cases e1
          exact .inl ⟨_, sqL_sub s h, by simp⟩
        | obj _ _ _ => cases e1
        | exc _ _ => cases e1
      | dct _ _ => exact absurd rfl (h2 _)
      | lst h r =>
        cases e1
        exact ⟨_, _, rfl, .inl ⟨_, SqL.of h, r.length.symm⟩, n.int s⟩
      | tup h r =>
        cases e1
        exact ⟨_, _, rfl, .inr ⟨_, SqT.of h, r.length.symm⟩, n.int s⟩
      | obj _ _ _ => cases e1
  split at e
  · cases e
  · cases e
  · rename_i h1 h2
    exact go e (fun k z => h1 k z) (fun k z => h2 k z)⟩
/-- all, any of a list of truths -/
def bls : List D → Option (List Bool)
  | [] => some []
  | .bl b :: ds => (bls ds).map (b :: ·)
  | _ :: _ => none
theorem bls_rep : ∀ {ds : List D} {vs : List V} {bs : List Bool}, RepL G B ds vs → bls ds = some bs → vs = bs.map V.bl
  | _, _, _, .nil, e => by cases e; rfl
  | d :: ds, _, bs, .cons h r, e => by
    cases h with
    | @bl b =>
      have e : (bls ds).map (b :: ·) = some bs := by simpa [bls] using e
      obtain ⟨bs', e1, rfl⟩ := Option.map_eq_some_iff.mp e
      rw [bls_rep r e1]; rfl
    | _ => cases e
def intsD : List D → Option (List Int)
  | [] => some []
  | .int b :: ds => (intsD ds).map (b :: ·)
  | _ :: _ => none
theorem ints_rep : ∀ {ds : List D} {vs : List V} {bs : List Int}, RepL G B ds vs → intsD ds = some bs → vs = bs.map V.int
  | _, _, _, .nil, e => by cases e; rfl
  | d :: ds, _, bs, .cons h r, e => by
    cases h with
    | @int b =>
      have e : (intsD ds).map (b :: ·) = some bs := by simpa [intsD] using e
      obtain ⟨bs', e1, rfl⟩ := Option.map_eq_some_iff.mp e
      rw [ints_rep r e1]; rfl
    | _ => cases e
def strsD : List D → Option (List Str)
  | [] => some []
  | .str b :: ds => (strsD ds).map (b :: ·)
  | _ :: _ => none
theorem strs_rep : ∀ {ds : List D} {vs : List V} {bs : List Str}, RepL G B ds vs → strsD ds = some bs → vs = bs.map V.str
  | _, _, _, .nil, e => by cases e; rfl
  | d :: ds, _, bs, .cons h r, e => by
    cases h with
    | @str b =>
      have e : (strsD ds).map (b :: ·) = some bs := by simpa [strsD] using e
      obtain ⟨bs', e1, rfl⟩ := Option.map_eq_some_iff.mp e
      rw [strs_rep r e1]; rfl
    | _ => cases e
def rvAll : List W → Option W := one fun w => (w.asLr.bind bls).map fun bs => .fr (.bl (bs.all id))
def rvAny : List W → Option W := one fun w => (w.asLr.bind bls).map fun bs => .fr (.bl (bs.any id))
def rvSum : List W → Option W := one fun w => (w.asLr.bind intsD).map fun bs => .fr (.int bs.sum)
theorem cwAll : CallW G (rAll G.K) rvAll := ⟨fun {B H ws vs w Q} s vl e n => by
  obtain ⟨x, rfl, e⟩ := one_inv e
  obtain ⟨v, rfl, vw⟩ := vl.one
  obtain ⟨bs, e1, rfl⟩ := Option.map_eq_some_iff.mp e
  obtain ⟨ds, e2, e3⟩ := Option.bind_eq_some_iff.mp e1
  obtain ⟨a, us, rfl, h1, r⟩ := vw.lstr s e2
  exact ⟨a, bs, rfl, by rw [← bls_rep r e3]; exact h1, n.bl s⟩⟩
theorem cwAny : CallW G (rAny G.K) rvAny := ⟨fun {B H ws vs w Q} s vl e n => by
  obtain ⟨x, rfl, e⟩ := one_inv e
  obtain ⟨v, rfl, vw⟩ := vl.one
  obtain ⟨bs, e1, rfl⟩ := Option.map_eq_some_iff.mp e
  obtain ⟨ds, e2, e3⟩ := Option.bind_eq_some_iff.mp e1
  obtain ⟨a, us, rfl, h1, r⟩ := vw.lstr s e2
  exact ⟨a, bs, rfl, by rw [← bls_rep r e3]; exact h1, n.bl s⟩⟩
theorem cwSum : CallW G (rSum G.K) rvSum := ⟨fun {B H ws vs w Q} s vl e n => by
  obtain ⟨x, rfl, e⟩ := one_inv e
  obtain ⟨v, rfl, vw⟩ := vl.one
  obtain ⟨bs, e1, rfl⟩ := Option.map_eq_some_iff.mp e
  obtain ⟨ds, e2, e3⟩ := Option.bind_eq_some_iff.mp e1
  obtain ⟨a, us, rfl, h1, r⟩ := vw.lstr s e2
  exact ⟨a, bs, rfl, by rw [← ints_rep r e3]; exact h1, n.int s⟩⟩
def rvMax2 : List W → Option W := two (intO (fun _ _ => true) fun i j => .int (if j > i then j else i))
def rvMin2 : List W → Option W := two (intO (fun _ _ => true) fun i j => .int (if j < i then j else i))
theorem cwMax2 : CallW G (fun xs H Q => ∃ i j, xs = [.int i, .int j] ∧ Q (.int (if j > i then j else i)) H) rvMax2 := ⟨fun {B H ws vs w Q} s vl e n => by
  obtain ⟨x, y, rfl, e⟩ := two_inv e
  obtain ⟨v, u, rfl, vx, vy⟩ := vl.two
  obtain ⟨i, j, rfl, rfl, _, rfl⟩ := intO_inv e
  exact ⟨i, j, by rw [vx.int, vy.int], n.int s⟩⟩
theorem cwMin2 : CallW G (fun xs H Q => ∃ i j, xs = [.int i, .int j] ∧ Q (.int (if j < i then j else i)) H) rvMin2 := ⟨fun {B H ws vs w Q} s vl e n => by
  obtain ⟨x, y, rfl, e⟩ := two_inv e
  obtain ⟨v, u, rfl, vx, vy⟩ := vl.two
  obtain ⟨i, j, rfl, rfl, _, rfl⟩ := intO_inv e
  exact ⟨i, j, by rw [vx.int, vy.int], n.int s⟩⟩
/-- list(..), tuple(..) -/
def keyD : Key → D
  | .inl i => .int i
  | .inr s => .str s
def W.toItems (w : W) : Option (List D) := match w.asLr with
  | some ds => some ds
  | none => w.asT
def rvList : List W → Option W := one fun w => w.toItems.map newL
def rvListD : List W → Option W := one fun w => w.asD.map fun kvs => newL (kvs.map fun kv => keyD kv.1)
def W.toItemsT (w : W) : Option (List D) := match w.asLr with
  | some ds => some ds
  | none => match w with
    | .fr (.tup ds) => some ds
    | _ => none
def rvTuple : List W → Option W := one fun w => w.toItemsT.map fun ds => .fr (.tup ds)
theorem cwList : CallW G (fun xs H Q => ∃ p ys, xs = [.ref p] ∧ (SqL G.K H p ys ∨ SqT G.K H p ys) ∧ ∀ l, H l = none → Q (.ref l) (upd H l (.lst ys))) rvList := ⟨fun {B H ws vs w Q} s vl e n => by
  obtain ⟨x, rfl, e⟩ := one_inv e
  obtain ⟨v, rfl, vw⟩ := vl.one
  obtain ⟨ds, e1, rfl⟩ := Option.map_eq_some_iff.mp e
  unfold W.toItems at e1
  split at e1
  · rename_i ds' e2
    cases e1
    obtain ⟨a, us, rfl, h1, r⟩ := vw.lstr s e2
    exact ⟨a, us, rfl, .inl h1, n.lst s r⟩
  · obtain ⟨a, us, rfl, h1, r⟩ := vw.tup s e1
    exact ⟨a, us, rfl, .inr h1, n.lst s r⟩⟩
theorem cwTuple : CallW G (fun xs H Q => ∃ p ys, xs = [.ref p] ∧ ((SqL G.K H p ys ∧ ∀ l, H l = none → Q (.ref l) (upd H l (.tup ys))) ∨ (SqT G.K H p ys ∧ Q (.ref p) H))) rvTuple := ⟨fun {B H ws vs w Q} s vl e n => by
  obtain ⟨x, rfl, e⟩ := one_inv e
  obtain ⟨v, rfl, vw⟩ := vl.one
  obtain ⟨ds, e1, rfl⟩ := Option.map_eq_some_iff.mp e
  unfold W.toItemsT at e1
  split at e1
  · rename_i ds' e2
    cases e1
    obtain ⟨a, us, rfl, h1, r⟩ := vw.lstr s e2
    exact ⟨a, us, rfl, .inl ⟨h1, n.tup s r⟩⟩
  · split at e1
    · cases e1
      have r := vw.rep
      cases r with
      | tup h r => exact ⟨_, _, rfl, .inr ⟨sqT_sub s h, n.old s (.tup h r)⟩⟩
    · cases e1⟩
end
end VD

set_option Elab.async false
set_option linter.all false
set_option maxRecDepth 100000
set_option maxHeartbeats 2000000
namespace VD
open PySem PySem.Spec PyProof.Rows L2

/-! ### for over a list that owns its items -/
section
variable {G : Gx} {σ : St} {H B : Hp} {S : Sl} {ts : Tmp} {F : List Addr}
theorem ownL_zip : ∀ {ws : List W} {vs : List V} {F : List Addr}, OwnL G B H ws vs F → OwnT G B H (vs.zip ws) F
  | _, _, _, .nil => .nil
  | _, _, _, .cons h r => .cons h (ownL_zip r)
/-- a list is let go, its items held -/
theorem Sta.open {a : V} {ws : List W} (s : Sta G σ H S ((a, .lst ws) :: ts) B F) : ∃ l vs B' F', a = .ref l ∧ H l = some (.lst vs) ∧ vs.length = ws.length ∧ B' l = some (.lst vs) ∧ Sta G σ H S (vs.zip ws ++ ts) B' F' ∧ Ch H B F H B' F' := by
  obtain ⟨F1, F2, o1, o2, p⟩ := s.own
  cases o2 with
  | @cons _ _ _ Fa Fb h r =>
    cases h with
    | @lst l _ vs Fx hD ol =>
      have q : F.Perm ((F1 ++ (Fx ++ Fb)) ++ [l]) := p.trans (by
        rw [List.append_assoc]
        refine List.Perm.append_left _ ?_
        exact (List.perm_append_comm (l₁ := [l]) (l₂ := Fx ++ Fb)))
      have nd := List.nodup_append.mp (q.nodup_iff.mp s.nd)
      have mem : ∀ x ∈ F1 ++ (Fx ++ Fb), x ∈ F := fun x h => q.mem_iff.mpr (List.mem_append_left _ h)
      have hF : l ∈ F := q.mem_iff.mpr (List.mem_append_right _ (List.mem_singleton_self l))
      have l1 : Le B (add B H [l]) := add_le fun a h => by rw [List.mem_singleton.mp h]; exact s.apart l hF
      refine ⟨l, vs, add B H [l], F1 ++ (Fx ++ Fb), rfl, hD, ol.length, by rw [add_in (List.mem_singleton_self l)]; exact hD, ⟨add_sub s.sub (fun x hx => ⟨.lst vs, by rw [List.mem_singleton.mp hx]; exact hD, fun _ z => by cases z⟩), s.tabs, ⟨F1, Fx ++ Fb, o1.mono l1 fun _ _ _ e => e, (ownL_zip (ol.mono l1 fun _ _ _ e => e)).app (r.mono l1 fun _ _ _ e => e), .refl _⟩, nd.1, fun a h => ?_⟩,
        ⟨fun _ _ e _ _ => e, l1, fun a h => .inl (mem a h), fun a o e => ?_⟩⟩
      · rw [add_out fun z => nd.2.2 a h a z rfl]
        exact s.apart a (mem a h)
      · by_cases z : a ∈ [l]
        · exact .inr (.inl (by rw [List.mem_singleton.mp z]; exact hF))
        · rw [add_out z] at e; exact .inl e
end
def mForO (i : Nat) (body : MS) : List W → MS
  | [] => fun S => some (.nx, S)
  | w :: ws => fun S => if i < S.length then match body (S.set i (some w)) with
      | some (.nx, S2) => mForO i body ws S2
      | some (.ct, S2) => mForO i body ws S2
      | some (.bk, S2) => some (.nx, S2)
      | r => r
    else none
def mForOwn (f : M W) (i : Nat) (body : MS) : MS := bindS f fun w => match w with
  | .lst ws => mForO i body ws
  | _ => fun _ => none
section
variable {T : Tx} {X : Cx} {Xw : WX} {P : Nat} {pos : Pos}
theorem psv_forO {i0 : Nat} {x : Str} {p : Pos} {iter : Expr} {body : List Stmt} {f : M W} {m : MS} (hp : PassesOwn (model X.prog X.w) X.A X.env X.xe) (hc : X.calm = true) (hi : PV T X Xw iter f) (hN : X.N.Nodup) (hx : X.N[i0]? = some x) (hl : Loc X.env.scope x) (hb : PSL T X Xw P body m) (hP : P ≤ i0 := by decide)
    (hs : ∀ x, foldedSetIterable iter X.env x = pure x := by intro _; rfl) (hf : X.fn x = true ∨ X.env.scope.names.lookup x = some .local := by first | exact .inl rfl | exact .inr rfl | assumption) : PSV T X Xw P (.For (.Name x p) iter body [] pos) (mForOwn f i0 m) :=
  psImp (ps_for hp hc (pi_list (tg := .Name x p) hi) (pg_name (pos := p) hN hx hl hf) hb hs) fun Dn σ H h => by
    refine (rdS.step (k := kW) h).mono fun v H1 ⟨w0, B, F, B1, F1, S1, o, S', _, st, c, e, w⟩ => ?_
    cases w0 with
    | lst ws =>
      have e : mForO i0 m ws S1 = some (o, S') := e
      have st : Sta (gx X T) σ H1 S1 [(v, .lst ws)] B1 F1 := st
      obtain ⟨l, vs, B2, F2, rfl, hl1, hlen, hB, s2, c2⟩ := st.open
      have s2 : Sta (gx X T) σ H1 S1 (vs.zip ws) B2 F2 := by simpa using s2
      have sq : ∀ {B' H' : Hp}, Le B2 B' → Sub B' H' → SqL X.K H' l vs := fun l' sb => sqL_sub sb (SqL.of (l' _ _ hB))
      refine ⟨l, rfl, ⟨vs, sq (Le.refl _) s2.sub⟩, fun i k τ H2 => k = vs.length - i ∧ i ≤ vs.length ∧ ∃ S2 B3 F3, Sta (gx X T) τ H2 S2 ((vs.drop i).zip (ws.drop i)) B3 F3 ∧ Ch H B F H2 B3 F3 ∧ Le B2 B3 ∧ τ.take P = σ.take P ∧ mForO i0 m (ws.drop i) S2 = some (o, S'),
        ⟨vs.length, by simp, Nat.zero_le _, S1, B2, F2, s2, c.trans c2, Le.refl _, rfl, e⟩, ?_⟩
      rintro i k τ H2 ⟨rfl, hil, S2, B3, F3, st3, c3, l3, t3, e3⟩
      have hq := sq l3 st3.sub
      by_cases hlt : i < vs.length
      · have hlw : i < ws.length := by omega
        rw [List.drop_eq_getElem_cons hlw] at e3 st3
        rw [List.drop_eq_getElem_cons hlt] at st3
        refine .inr ⟨⟨vs, vs[i], hq, List.getElem?_eq_getElem hlt⟩, fun τ' H' => ∃ S2 B3 F3, Sta (gx X T) τ' H' S2 ((vs.drop (i + 1)).zip (ws.drop (i + 1))) B3 F3 ∧ Ch H B F H' B3 F3 ∧ Le B2 B3 ∧ τ'.take P = σ.take P ∧ mForO i0 m (ws.drop (i + 1)) S2 = some (o, S'), fun τ' H' q => ⟨vs.length - (i + 1), by omega, rfl, hlt, q⟩, fun y H3 hy => ?_⟩
        obtain ⟨rfl, hy⟩ := hy
        have ey := hy vs hq
        rw [List.getElem?_eq_getElem hlt] at ey
        cases ey
        unfold mForO at e3
        split at e3
        · rename_i hi0
          have st3 : Sta (gx X T) τ H3 S2 ((vs[i], ws[i]) :: ((vs.drop (i + 1)).zip (ws.drop (i + 1)))) B3 F3 := st3
          obtain ⟨F4, st4, c4⟩ := st3.store hi0
          have t4 : (τ.set i0 (some vs[i])).take P = τ.take P := take_set hP
          obtain ⟨Fa, Fb, s5, s6, p6⟩ := Sta.split (ts := []) st4
          have c5 := c3.trans c4
          cases em : m (S2.set i0 (some ws[i])) with
          | none => rw [em] at e3; cases e3
          | some q =>
            obtain ⟨fl, S4⟩ := q
            rw [em] at e3
            refine ⟨_, B3, Fa, fl, S4, s5, em, ?_⟩
            cases fl with
            | nx =>
              intro τ' H' B' F' st' c' t'
              obtain ⟨j1, j2⟩ := Sta.join st' c' s6 p6 st4.nd
              exact ⟨S4, B', _, j1, c5.trans j2, l3.trans c'.le, t'.trans (t4.trans t3), e3⟩
            | ct =>
              intro τ' H' B' F' st' c' t'
              obtain ⟨j1, j2⟩ := Sta.join st' c' s6 p6 st4.nd
              exact ⟨S4, B', _, j1, c5.trans j2, l3.trans c'.le, t'.trans (t4.trans t3), e3⟩
            | bk =>
              cases e3
              intro τ' H' B' F' st' c' t'
              obtain ⟨j1, j2⟩ := Sta.join st' c' s6 p6 st4.nd
              obtain ⟨F9, j3, c9⟩ := Sta.drop (ts := []) j1
              exact w τ' H' B' F9 j3 (c5.trans (j2.trans c9)) (t'.trans (t4.trans t3))
            | rt z =>
              cases e3
              intro v τ' H' B' F' st' c' t'
              obtain ⟨j1, j2⟩ := Sta.join st' c' s6 p6 st4.nd
              obtain ⟨F9, j3, c9⟩ := Sta.drop (ts := [(v, z)]) j1
              exact w v τ' H' B' F9 j3 (c5.trans (j2.trans c9)) (t'.trans (t4.trans t3))
            | ex z =>
              cases e3
              intro cls d τ' H' B' F' st' c' t' xr
              obtain ⟨j1, j2⟩ := Sta.join st' c' s6 p6 st4.nd
              obtain ⟨F9, j3, c9⟩ := Sta.drop (ts := []) j1
              exact w cls d τ' H' B' F9 j3 (c5.trans (j2.trans c9)) (t'.trans (t4.trans t3)) xr
        · cases e3
      · have hi' : i = vs.length := by omega
        have e4 : ws.drop i = [] := List.drop_eq_nil_of_le (by omega)
        rw [e4] at e3
        cases e3
        obtain ⟨F9, j3, c9⟩ := Sta.drop (ts := []) st3
        exact .inl ⟨⟨vs, hq, by omega⟩, w τ H2 B3 F9 j3 (c3.trans c9) t3⟩
    | _ => cases e
end
end VD

set_option Elab.async false
set_option linter.all false
set_option maxRecDepth 100000
set_option maxHeartbeats 2000000
namespace VD
open PySem PySem.Spec PyProof.Rows L2

/-! ### what changes a slot's object -/
/-- the slot has a list of its own, now -/
def hasL (i : Nat) (S : Sl) : Bool := match (S[i]?).join with
  | some (.lst _) => true
  | _ => false
def mChk {α : Type} (i : Nat) (m : M α) : M α := fun S => if hasL i S = true then m S else none
def mAppend (i : Nat) (f : M W) : M W := mChk i (bindM f fun w => fun S => match (S[i]?).join with
  | some (.lst ws) => if ws.length < sizeLine then some (.ok (.fr .non), S.set i (some (.lst (ws ++ [w])))) else none
  | _ => none)
theorem frL_map : ∀ {ws : List W} {ds : List D}, frL ws = some ds → ws = ds.map .fr
  | [], _, e => by cases e; rfl
  | w :: ws, ds, e => by
    cases w with
    | fr d =>
      have e : (frL ws).map (d :: ·) = some ds := by simpa [frL] using e
      obtain ⟨ds', e1, rfl⟩ := Option.map_eq_some_iff.mp e
      rw [frL_map e1]; rfl
    | _ => simp [frL] at e
/-- an own list of settled items -/
def W.ownL : W → Option (List D)
  | .lst ws => frL ws
  | _ => none
theorem ownL_eq {w : W} {ds : List D} (e : w.ownL = some ds) : w = newL ds := by
  cases w with
  | lst ws => rw [frL_map e]; rfl
  | _ => cases e
def mInsert (i : Nat) (f : M (List Opd)) : M W := mChk i (bindM f fun os => fun S => match getL S os with
  | some [.fr (.int k), .fr d] => match (S[i]?).join with
    | some w => match w.ownL with
      | some ds => if ds.length < sizeLine ∧ 0 ≤ k ∧ k < 2 ^ 63 then some (.ok (.fr .non), S.set i (some (newL (ds.take k.toNat ++ [d] ++ ds.drop k.toNat)))) else none
      | none => none
    | none => none
  | _ => none)
/-- slot[k] = e of a list -/
def setI (i : Nat) (d : D) (u : W) : MS := fun S => match u, (S[i]?).join with
  | .fr (.int k), some w => match w.ownL with
    | some ds => match ixN ds.length k with
      | some j => some (.nx, S.set i (some (newL (ds.set j d))))
      | none => none
    | none => none
  | _, _ => none
def mSetI (i : Nat) (f g : M W) : MS := bindS f fun w => fun S => match w with
  | .fr d => if hasL i S = true then bindS g (setI i d) S else none
  | _ => none
theorem RepL.set {G : Gx} {B : Hp} : ∀ {ds : List D} {vs : List V} {d : D} {v : V} (j : Nat), RepL G B ds vs → Rep G B d v → RepL G B (ds.set j d) (vs.set j v)
  | _, _, _, _, _, .nil, _ => .nil
  | _, _, _, _, 0, .cons _ r, q => .cons q r
  | _, _, _, _, n + 1, .cons h r, q => .cons h (RepL.set n r q)
section
variable {G : Gx} {σ : St} {H B : Hp} {S : Sl} {ts : Tmp} {F : List Addr}
theorem set_back {S : Sl} {i : Nat} {w w' : W} (e : (S[i]?).join = some w) : (S.set i none)[i]? = some none ∧ (S.set i none).set i (some w') = S.set i (some w') := by
  have h : i < S.length := (List.getElem?_eq_some_iff.mp (slot_some e)).1
  exact ⟨by simp [h], by rw [List.set_set]⟩
/-- a slot's own list of settled items gets others -/
theorem Sta.slotL {i : Nat} {ds ds' : List D} {vs' : List V} {l : Addr} (s : Sta G σ H S ts B F) (e : (S[i]?).join = some (newL ds)) (ev : σ[i]? = some (some (.ref l))) (r : RepL G B ds' vs') :
    Sta G σ (upd H l (.lst vs')) (S.set i (some (newL ds'))) ts B F ∧ Ch H B F (upd H l (.lst vs')) B F := by
  obtain ⟨v', ev', p⟩ := s.park (slot_some e)
  rw [ev] at ev'
  cases ev'
  obtain ⟨p2, c⟩ := p.putL r
  obtain ⟨b1, b2⟩ := set_back (w' := newL ds') e
  have p3 := p2.unpark b1 ev
  rw [b2] at p3
  exact ⟨p3, c⟩
/-- what stands there -/
theorem Sta.slotAt {i : Nat} {ds : List D} (s : Sta G σ H S ts B F) (e : (S[i]?).join = some (newL ds)) : ∃ l vs, σ[i]? = some (some (.ref l)) ∧ H l = some (.lst vs) ∧ RepL G B ds vs := by
  obtain ⟨v, ev, p⟩ := s.park (slot_some e)
  obtain ⟨Fw, ow⟩ := p.held (List.mem_cons_self ..)
  cases ow with
  | lst h ol =>
    obtain ⟨_, r⟩ := ownL_fr ol
    exact ⟨_, _, ev, h, r⟩
end
section
variable {T : Tx} {X : Cx} {Xw : WX} {P : Nat} {pos : Pos}
theorem bindS_go {G : Gx} {D : Ends} {σ : St} {H B : Hp} {F : List Addr} {S S' : Sl} {o : Flo} {α β : Type} {k : Kd α β} {f : M α} {g : α → MS} {Q : β → Hp → Prop} (st : Sta G σ H S [] B F) (e : bindS f g S = some (o, S')) (w : WantS G P D σ H B F Xw o S')
    (q : ∀ a b B1 F1 S1 H1, k.ok σ a b → Sta G σ H1 S1 (k.tm a b) B1 F1 → Ch H B F H1 B1 F1 → g a S1 = some (o, S') → Q b H1) : rdG k G σ H Xw Q f := by
  unfold bindS at e
  cases e1 : f S with
  | none => rw [e1] at e; cases e
  | some r =>
    obtain ⟨r, S1⟩ := r
    rw [e1] at e
    cases r with
    | ex x =>
      have e : some (Flo.ex x, S1) = some (o, S') := e
      cases e
      exact ⟨S, B, F, _, _, st, e1, fun cls d H' B' F' st' c' xr => w cls d σ H' B' F' st' c' rfl xr⟩
    | ok a =>
      have e : g a S1 = some (o, S') := e
      exact ⟨S, B, F, _, S1, st, e1, fun b H' B' F' ok st' c' => q a b B' F' S1 H' ok st' c' e⟩
/-- the slot's list stands ahead of the rest -/
theorem chk_go {α β : Type} {k : Kd α β} {σ : St} {H : Hp} {Q : β → Hp → Prop} {i : Nat} {m : M α} (h : rdG k (gx X T) σ H Xw Q (mChk i m)) : rdG k (gx X T) σ H Xw Q m ∧ ∃ l, σ[i]? = some (some (.ref l)) ∧ ∃ xs, SqL X.K H l xs := by
  obtain ⟨S, B, F, o, S', st, e, w⟩ := h
  unfold mChk at e
  split at e
  · rename_i hh
    refine ⟨⟨S, B, F, o, S', st, e, w⟩, ?_⟩
    unfold hasL at hh
    split at hh
    · rename_i ws e0
      obtain ⟨v, ev, p⟩ := st.park (slot_some e0)
      obtain ⟨Fw, ow⟩ := p.held (List.mem_cons_self ..)
      cases ow with
      | lst h ol => exact ⟨_, ev, _, SqL.of h⟩
    · cases hh
  · cases e
theorem var_ok {i : Nat} {x : Str} {pos : Pos} (hN : X.N[i]? = some x) (hv : Vis X.env.scope x) (hd : (x == ("__debug__" : Str)) = false) (hcd : (x == ("__classdict__" : Str)) = false) : PE X (.Name x pos) (tVar i) := pe_var hN hv hd hcd
/-- slot.append(e) -/
theorem pv_append (i : Nat) {x : Str} {e : Expr} {p apos cpos : Pos} {f : M W} (he : PV T X Xw e f) (hN : X.N[i]? = some x := by rfl) (hv : Vis X.env.scope x := by first | exact Or.inl rfl | exact Or.inr (Or.inl rfl) | exact Or.inr (Or.inr rfl)) (hd : (x == ("__debug__" : Str)) = false := by decide) (hcd : (x == ("__classdict__" : Str)) = false := by decide)
    (hbase : attributeBase (.Name x p) "append" X.env (eval (.Name x p) X.env) = eval (.Name x p) X.env := by rfl)
    (hfew : ((backTo cpos (starEach [e] X.env)).all (fun x => !x.1) && (backToKw cpos (keywordEach [] X.env)).all (fun x => x.1.isSome)
      && decide ([e].length + ([] : List Keyword).length + (if ([] : List Keyword).isEmpty then 0 else 1) < 30)) = true := by rfl)
    (hline : (apos.endLine == cpos.line) = true := by rfl) (hs : starEach [e] X.env = (false, eval e X.env) :: starEach [] X.env := by rfl) (hplain : (backTo cpos (starEach [] X.env)).any (·.1) = false := by rfl) :
    PV T X Xw (.Call (.Attribute (.Name x p) "append" apos) [e] [] cpos) (mAppend i f) :=
  peImp (pe_bm PySem.F.plainAttrs_list PySem.F.slot_list_append PySem.F.type_list_append mt_append (pe_var hN hv hd hcd) (pa_cons he pa_nil hs) hbase hfew hline hs hplain) fun σ H Q h => by
    obtain ⟨h, q⟩ := chk_go h
    obtain ⟨l, ev, ty⟩ := q
    refine ⟨.ref l, ev, .inl ⟨rfl, ty⟩, ?_⟩
    obtain ⟨B, F, R⟩ := h.start
    refine (R.step (k1 := kW)).mono fun y H1 ⟨w, _, S, B1, F1, o, S', st, c, e, wn⟩ => ?_
    have st : Sta (gx X T) σ H1 S [(y, w)] B1 F1 := st
    dsimp only at e
    split at e
    · rename_i ws e0
      split at e
      · rename_i hl
        cases e
        obtain ⟨v', ev', p⟩ := st.park (slot_some e0)
        rw [ev] at ev'
        cases ev'
        obtain ⟨vs, F2, hD, hlen, p2, c2⟩ := (p.turn (List.Perm.swap _ _ _)).snoc
        obtain ⟨b1, b2⟩ := set_back (w' := .lst (ws ++ [w])) e0
        have p3 := p2.unpark b1 ev
        rw [b2] at p3
        exact ⟨l, vs, y, rfl, rfl, hD, by rw [hlen]; exact hl, wn .non _ B1 F2 trivial (p3.old .non) (c.trans c2)⟩
      · cases e
    · cases e
/-- slot.insert(k, e) -/
theorem pv_insert (i : Nat) {x : Str} {e e2 : Expr} {p apos cpos : Pos} {f : M (List Opd)} (he : PAO T X Xw [e, e2] f) (hN : X.N[i]? = some x := by rfl) (hv : Vis X.env.scope x := by first | exact Or.inl rfl | exact Or.inr (Or.inl rfl) | exact Or.inr (Or.inr rfl)) (hd : (x == ("__debug__" : Str)) = false := by decide) (hcd : (x == ("__classdict__" : Str)) = false := by decide)
    (hbase : attributeBase (.Name x p) "insert" X.env (eval (.Name x p) X.env) = eval (.Name x p) X.env := by rfl)
    (hfew : ((backTo cpos (starEach [e, e2] X.env)).all (fun x => !x.1) && (backToKw cpos (keywordEach [] X.env)).all (fun x => x.1.isSome)
      && decide ([e, e2].length + ([] : List Keyword).length + (if ([] : List Keyword).isEmpty then 0 else 1) < 30)) = true := by rfl)
    (hline : (apos.endLine == cpos.line) = true := by rfl) (hs : starEach [e, e2] X.env = (false, eval e X.env) :: starEach [e2] X.env := by rfl) (hplain : (backTo cpos (starEach [e2] X.env)).any (·.1) = false := by rfl) :
    PV T X Xw (.Call (.Attribute (.Name x p) "insert" apos) [e, e2] [] cpos) (mInsert i f) :=
  peImp (pe_bm PySem.F.plainAttrs_list PySem.F.slot_list_insert PySem.F.type_list_insert mt_insert (pe_var hN hv hd hcd) he hbase hfew hline hs hplain) fun σ H Q h => by
    obtain ⟨h, q⟩ := chk_go h
    obtain ⟨l, ev, ty⟩ := q
    refine ⟨.ref l, ev, .inl ⟨rfl, ty⟩, ?_⟩
    obtain ⟨B, F, R⟩ := h.start
    refine (R.step (k1 := kA)).mono fun vs H1 ⟨os, ks, S, B1, F1, o, S', st, c, e, wn⟩ => ?_
    dsimp only at e
    split at e
    · rename_i k d eg
      obtain ⟨v1, v2, rfl, w1, w2⟩ := (st.opds (fun z hz => List.mem_append_left _ hz) ks eg).two
      split at e
      · rename_i w e0
        split at e
        · rename_i ds e1
          split at e
          · rename_i hc
            cases e
            obtain ⟨F2, s2, c2⟩ := Sta.drop (ts := []) st
            have ew := ownL_eq e1
            subst ew
            obtain ⟨l', us, ev', hD, r⟩ := s2.slotAt e0
            rw [ev] at ev'
            cases ev'
            have r2 : RepL (gx X T) B1 (ds.take k.toNat ++ [d] ++ ds.drop k.toNat) (us.take k.toNat ++ [v2] ++ us.drop k.toNat) := ((r.take _).app (.cons w2.rep .nil)).app (r.drop _)
            obtain ⟨s3, c3⟩ := s2.slotL e0 ev r2
            exact ⟨l, us, k, v2, rfl, by rw [w1.int], hD, by rw [r.length]; exact hc.1, hc.2.1, hc.2.2, wn .non _ B1 F2 trivial (s3.old .non) (c.trans (c2.trans c3))⟩
          · cases e
        · cases e
      · cases e
    · cases e
/-- slot[k] = e -/
theorem psv_setI (i : Nat) {x : Str} {e e2 : Expr} {p pos' : Pos} {f g : M W} (he : PV T X Xw e f) (hi : PV T X Xw e2 g) (hN : X.N[i]? = some x := by rfl) (hv : Vis X.env.scope x := by first | exact Or.inl rfl | exact Or.inr (Or.inl rfl) | exact Or.inr (Or.inr rfl)) (hd : (x == ("__debug__" : Str)) = false := by decide) (hcd : (x == ("__classdict__" : Str)) = false := by decide)
    (ha : ∀ v, assign (.Subscript (.Name x p) e2 pos') X.env v = (do
      let ov ← holding [v] (eval (.Name x p) X.env)
      let iv ← holding [v, ov] (eval e2 X.env)
      standAt pos'
      holding [v, ov, iv] (setItem ov iv v)
      release [v, ov, iv] []) := by intro _; rfl)
    (hs : swapsWithSole [.Subscript (.Name x p) e2 pos'] e pos.line X.env = pure false := by rfl) (hw : swappedStores [.Subscript (.Name x p) e2 pos'] e X.env = pure none := by rfl)
    (h1 : (assignEach [.Subscript (.Name x p) e2 pos'] X.env).map (·.2) = [assign (.Subscript (.Name x p) e2 pos') X.env] := by rfl) :
    PSV T X Xw P (.Assign [.Subscript (.Name x p) e2 pos'] e pos) (mSetI i f g) :=
  psImp (ps_asg he (pg_sub (pe_var hN hv hd hcd) hi set_list ha) hs hw h1) fun Dn σ H h => by
    refine (h.step (k := kW)).mono fun v H1 ⟨w, B, F, B1, F1, S, o, S', _, st, c, e, wn⟩ => ?_
    have st : Sta (gx X T) σ H1 S [(v, w)] B1 F1 := st
    cases w with
    | fr d =>
      have e : (if hasL i S = true then bindS g (setI i d) S else none) = some (o, S') := e
      split at e
      · rename_i hh
        have ⟨l, ev⟩ : ∃ l, σ[i]? = some (some (.ref l)) := by
          unfold hasL at hh
          split at hh
          · rename_i ws e0
            obtain ⟨v, ev, p⟩ := st.park (slot_some e0)
            obtain ⟨Fw, ow⟩ := p.held (List.mem_cons_self ..)
            cases ow with
            | lst h ol => exact ⟨_, ev⟩
          · cases hh
        refine ⟨.ref l, ev, ?_⟩
        have r0 : Rep (gx X T) B1 d v := (st.held (List.mem_cons_self ..)).rep
        obtain ⟨F0, s0, c0⟩ := Sta.drop (ts := []) (by simpa using st)
        refine bindS_go (k := kW) s0 e (wn.later (c.trans c0) rfl) fun u iv B2 F2 S2 H2 _ st2 c2 e2 => ?_
        have st2 : Sta (gx X T) σ H2 S2 [(iv, u)] B2 F2 := st2
        unfold setI at e2
        split at e2
        · rename_i k w e0 _ _
          split at e2
          · rename_i ds e1
            split at e2
            · rename_i j ej
              cases e2
              have ri := (st2.held (List.mem_cons_self ..)).int
              subst ri
              obtain ⟨F3, s3, c3⟩ := Sta.drop (ts := []) (by simpa using st2)
              have ew := ownL_eq e1
              subst ew
              obtain ⟨l', us, ev', hD, r⟩ := s3.slotAt e0
              rw [ev] at ev'
              cases ev'
              obtain ⟨s4, c4⟩ := s3.slotL e0 ev (r.set j (r0.mono c2.le))
              exact ⟨l, us, k, j, rfl, rfl, hD, by rw [r.length]; exact ej, wn σ _ B2 F3 s4 (c.trans (c0.trans (c2.trans (c3.trans c4)))) rfl⟩
            · cases e2
          · cases e2
        · cases e2
      · cases e
    | _ => cases e
end
end VD

set_option Elab.async false
set_option linter.all false
set_option maxRecDepth 100000
set_option maxHeartbeats 2000000
namespace VD
open PySem PySem.Spec PyProof.Rows L2

/-! ### a set comprehension over keys, counted -/
section
variable {X : Cx}
/-- a key joins the set at D -/
theorem addK_go {pins : List (Addr × Obj)} {σ : L2.St} {H : Hp} {s : Shared} {E : Value → Shared → Prop} {D : Addr} {S : Key → Bool} {n : Nat} {k : Key} {u : Value} {Q : Value → Shared → Prop} (I : Inv X pins σ H s) (hD : H D = some (SetK X.prog X.w D S n)) (room : n + 1 < scanBound) (ru : RelV (kV k) u)
    (h : ∀ s', Inv X pins σ (upd H D (SetK X.prog X.w D (fun j => S j || decide (j = k)) (if S k = true then n else n + 1))) s' → Q .none s') : wpAny (model X.prog X.w) X.A (call (.builtin "set.add") [.ref D, u]) Q E s := by
  refine call_set_add (kV_is ru) (key_scan ru) (setK_get I hD) room fun h' sb new => ?_
  have he : ∃ u, h'.get? D = some u := by
    have ⟨o, _, _, _, ho, _⟩ := new
    exact ⟨o, ho⟩
  exact h _ (I.write (e := D) (t' := s.toks + 1) (by rw [hD]; trivial) (.inl rfl) (fun b u hb hu => (sb.2 b hb).trans hu) he (setK_new new))
/-- {elt for target in iter if ..}, elt a key: D the new set -/
def tScK (P : Program) (w : World) (wi : TI) (g : TG) (tt : TT) (te : TE) (vs : List Nat) : TE := fun σ H Q => wi σ H fun J H1 => ∀ D, H1 D = none → ∃ W : Nat → Nat → Hp → Prop, (∃ m, W 0 m (upd H1 D (SetK P w D (fun _ => false) 0))) ∧ ∀ i m H, W i m H →
  (J.stop i H ∧ Q (.ref D) H) ∨ (J.go i H ∧ ∃ Nx : Hp → Prop, (∀ H', Nx H' → ∃ m', m' < m ∧ W (i + 1) m' H') ∧ ∀ x H', J.yld i H x H' → g x (L2.wipe σ vs) H' fun σ2 H2 => L2.wipe σ2 vs = L2.wipe σ vs ∧ tt σ2 H2 fun b H3 =>
    if b = true then te σ2 H3 fun y H4 => ∃ (c : Key) (S : Key → Bool) (n : Nat), y = kV c ∧ H4 D = some (SetK P w D S n) ∧ n + 1 < scanBound ∧ Nx (upd H4 D (SetK P w D (fun j => S j || decide (j = c)) (if S c = true then n else n + 1))) else Nx H3)
theorem pe_scK {elt tg iter : Expr} {ifs : List Expr} {scope : Scope} {own : List (PySem.Str × Nat)} {pos : Pos} {wi : TI} {g : TG} {tt : TT} {te : TE} (hc : X.calm = true) (hN : X.N.Nodup) (hi : PI X tg iter wi) (ok : BlkOk X.N X.env.scope scope own)
    (hg : ∀ (s : Shared) (H : Hp) (C : Addr) (cl : List (PySem.Str × Addr)) (fp : List Addr), PG (X.blk s H scope (compEnvC scope cl C X.env) fp) tg g) (ht : ∀ (s : Shared) (H : Hp) (C : Addr) (cl : List (PySem.Str × Addr)) (fp : List Addr), PTs (X.blk s H scope (compEnvC scope cl C X.env) fp) ifs tt)
    (he : ∀ (s : Shared) (H : Hp) (C : Addr) (cl : List (PySem.Str × Addr)) (fp : List Addr), PE (X.blk s H scope (compEnvC scope cl C X.env) fp) elt te) (hs : ∀ x, foldedSetIterable iter X.env x = pure x := by intro _; rfl) :
    PE X (.SetComp elt [⟨tg, iter, ifs, 0⟩] scope pos) (tScK X.prog X.w wi g tt te (own.map (·.2))) := by
  refine ⟨fun pins s σ H Q I h => ?_⟩
  rw [PpSet.eval_SetComp]
  have hfree : ∀ y ∈ scope.names, y.2 = .free → ∃ c, X.env.cells.lookup y.1 = some c := fun y hy e => by
    rcases ok.free y hy e with k | k
    · exact I.ok.has _ (.inl k)
    · exact I.ok.has _ (.inr k)
  refine wpAny_comprehension_free (use := none) rfl hs (closure_ok hfree) ok.kind (fun y hy e => by rw [ok.uniq y hy, e])
    (thn (hi.run pins s σ H _ I h) fun xv s1 hx => thn hx fun itv s2 h2 => ?_)
  obtain ⟨it, fp, tn, J, H2, e, I2, T, st2, f2, q⟩ := h2
  subst e
  refine PpSet.newSet_ok (newEnv_comp ?_)
  generalize hD : s2.heap.objs.size = D
  obtain ⟨W, ⟨m0, w0⟩, turn⟩ := q D (I2.hok.fresh (Nat.le_of_eq hD))
  have hn : (s2.heap.push { cls := .type "set", dict := none, data := .set #[] 0 (.fresh 0 0 (!X.w.params.followText "set-order")) }).SetOf (mixKind X.prog X.w) D (fun _ => false) 0 := by
    rw [← hD]
    exact ⟨_, #[], 0, _, Heap.get?_push_size _ rfl, ⟨rfl, rfl, rfl⟩, rfl, (fun e he => by simp at he), (fun k => by simp), (by decide), (by rfl), rfl⟩
  generalize hO : SetK X.prog X.w D (fun _ => false) 0 = O at w0
  generalize hs3 : ({ s2 with heap := s2.heap.push { cls := .type "set", dict := none, data := .set #[] 0 (.fresh 0 0 (!X.w.params.followText "set-order")) } } : Shared) = s3
  have h3 : s3.heap = s2.heap.push { cls := .type "set", dict := none, data := .set #[] 0 (.fresh 0 0 (!X.w.params.followText "set-order")) } := by rw [← hs3]
  have I3 : Inv X pins σ (upd H2 D O) s3 := by
    rw [← hs3, ← hO]
    exact I2.laid (t' := s2.toks) (fun b o e => Heap.get?_push_of_some _ e) (Nat.le_of_eq hD) (setK_new hn)
  have f3 : ∀ b ∈ fp, FpOk X pins (upd H2 D O) b ∧ b < s3.heap.objs.size := fun b hb => by
    obtain ⟨o, e, _⟩ := T.obj _ _ st2 b hb
    have hlt := Heap.lt_size e
    refine ⟨⟨?_, (f2 b hb).2⟩, by rw [h3, Heap.size_push]; exact Nat.lt_succ_of_lt hlt⟩
    rw [upd_ne (by rw [← hD]; exact Nat.ne_of_lt hlt)]
    exact (f2 b hb).1
  have st3 : tn 0 s3.heap := T.keep _ _ _ st2 fun b _ o e => by rw [h3]; exact Heap.get?_push_of_some _ e
  have I4 := block_start I3 ok hN f3
  have pg := hg s3 (upd H2 D O) s3.heap.objs.size (cellsFrom (s3.heap.objs.size + 1) scope.names (cloFrom X.env.cells scope.names [])) fp
  have pt := ht s3 (upd H2 D O) s3.heap.objs.size (cellsFrom (s3.heap.objs.size + 1) scope.names (cloFrom X.env.cells scope.names [])) fp
  have pe := he s3 (upd H2 D O) s3.heap.objs.size (cellsFrom (s3.heap.objs.size + 1) scope.names (cloFrom X.env.cells scope.names [])) fp
  have nfp : ∀ b ∈ fp, (upd H2 D O) b = none := fun b hb => (f3 b hb).1.1
  show codeAny _ _ (.compStart (.SetComp elt [⟨tg, iter, ifs, 0⟩] scope pos) 0 (.ref it) (.ref D) (compEnvC scope (cellsFrom (s3.heap.objs.size + 1) scope.names (cloFrom X.env.cells scope.names [])) s3.heap.objs.size X.env)) (compPost (model X.prog X.w) X.A X.xe none _ (.ref D) s3.heap.objs.size) { s3 with heap := pushCells (s3.heap.push { cls := .type "dict", data := .dict #[] }) scope.names }
  generalize hce : compEnvC scope (cellsFrom (s3.heap.objs.size + 1) scope.names (cloFrom X.env.cells scope.names [])) s3.heap.objs.size X.env = ce at I4 pg pt pe ⊢
  have cL : ce.locals = s3.heap.objs.size := by subst hce; rfl
  generalize hH3 : upd H2 D O = H3 at I3 I4 pg pt pe w0 nfp f3
  generalize hs4 : ({ s3 with heap := pushCells (s3.heap.push { cls := .type "dict", data := .dict #[] }) scope.names } : Shared) = s4 at I4 ⊢
  have st4 : tn 0 s4.heap := T.keep _ _ _ st3 fun b _ o e => by rw [← hs4]; exact pushCells_keeps _ _ _ _ (Heap.get?_push_of_some _ e)
  have stat : ∀ {σ' : L2.St} {H' : Hp} {s' : Shared}, Inv (X.blk s3 H3 scope ce fp) [] σ' H' s' → (∀ b ∈ fp, H' b = none) → ∀ b ∈ fp, FpOk (X.blk s3 H3 scope ce fp) [] H' b := fun {σ' H' s'} I' hn b hb =>
    ⟨hn b hb, (I'.ok.exf b hb).1, I'.ok.exfs b hb, .inl hb, fun x c e => (I'.ok.exf b hb).2 x c e, fun p hp => absurd (show p ∈ ([] : List (Addr × Obj)) ++ [] from hp) (by simp)⟩
  refine PpSet.codeAny_compStart_set ?_ (T.self X.A 0 _ _ _ st4 ?_)
  all_goals
    refine PpSet.compLoopS_any (fun n s' => ∃ i H', Inv (X.blk s3 H3 scope ce fp) [] (L2.wipe σ (own.map (·.2))) H' s' ∧ tn i s'.heap ∧ (∀ b ∈ fp, H' b = none) ∧ W i n H') ?_ m0 ⟨0, H3, I4, st4, nfp, w0⟩
    rintro n s5 ⟨i, H5, I5, st5, n5, w5⟩
    rcases turn i n H5 w5 with ⟨stop, qq⟩ | ⟨go, Nx, hNx, step⟩
    · refine thnF (T.done (X.blk s3 H3 scope ce fp) rfl rfl rfl hc i [] s5 _ H5 (fun _ _ => False) I5 (stat I5 n5) st5 stop) fun r s6 ⟨hr, I6⟩ => ?_
      subst hr
      have I7 : Inv X pins σ H5 s6 := I3.call' (ch := fp) I6.os I6.base I6.hok I6.bare fun b hb => ⟨(f3 b hb).1.2.2.2.1, (f3 b hb).1.2.1, (f3 b hb).1.2.2.2.2.1, (f3 b hb).1.2.2.2.2.2⟩
      have nC : H5 s3.heap.objs.size = none := by
        have z : H5 ce.locals = none := I6.free
        rw [cL] at z
        exact z
      obtain ⟨m, hns, _⟩ := I6.loc
      have hns : s6.heap.Ns ce.locals m := hns
      rw [cL] at hns
      obtain ⟨f0, f1, f2, f3, f4, f5⟩ := I3.fpOk (H' := H5) (Nat.le_refl _) nC
      exact ⟨m, hns, fun h'' sb => ⟨.ref D, H5, I7.turned (t' := s6.toks) (fun b o hb e => (sb.2 b hb).trans e) f0 f1 f3 f4 f5, rfl, qq⟩⟩
    · refine thnF (T.item (X.blk s3 H3 scope ce fp) rfl rfl rfl hc i [] s5 _ H5 (fun _ _ => False) I5 (stat I5 n5) st5 go) fun r s6 ⟨u, hr, h6⟩ => ?_
      subst hr
      refine thnF h6 fun _ s7 ⟨x, H7, I7, r7, y7, st7, n7⟩ => ?_
      refine thnF (pg.run _ s7 _ H7 x u _ (I7.pinned (stat I7 n7) (T.obj _ _ st7)) r7 (step x H7 y7)) fun _ s8 ⟨σ8, H8, I8, hw8, q8⟩ => ?_
      refine thnF (pt.run _ s8 σ8 H8 _ I8 q8) fun b s9 ⟨H9, I9, q9⟩ => ?_
      have fin : ∀ {s' : Shared} {H' : Hp}, Inv (X.blk s3 H3 scope ce fp) ([] ++ pinsAt fp s7.heap) σ8 H' s' → Nx H' → ∃ m, m < n ∧ ∃ i H', Inv (X.blk s3 H3 scope ce fp) [] (L2.wipe σ (own.map (·.2))) H' s' ∧ tn i s'.heap ∧ (∀ b ∈ fp, H' b = none) ∧ W i m H' := fun {s' H'} I' nx => by
        obtain ⟨m', hm, w'⟩ := hNx H' nx
        have pin' : ∀ b ∈ fp, ∀ o, s7.heap.get? b = some o → s'.heap.get? b = some o ∧ H' b = none := fun b hb o e =>
          let z := I'.pin (b, o) (List.mem_append_right _ (List.mem_append_right _ (mem_pinsAt hb e)))
          ⟨z.1, z.2.1⟩
        refine ⟨m', hm, i + 1, H', (I'.unpinned (pins := [])).weak (by rw [← hw8, L2.wipe_length]) (fun j v e => ?_), T.keep _ _ _ st7 fun b hb o e => (pin' b hb o e).1, fun b hb => ?_, w'⟩
        · rw [← hw8] at e
          exact (wipe_some e).1
        · obtain ⟨o, e, _⟩ := T.obj _ _ st7 b hb
          exact (pin' b hb o e).2
      cases b with
      | false =>
        simp only [Bool.false_eq_true, if_false] at q9 ⊢
        exact fin I9 q9
      | true =>
        simp only [if_true] at q9 ⊢
        refine thnF (pe.run _ s9 σ8 H9 _ I9 q9) fun z s10 ⟨yv, H10, I10, r10, cb, S0, n0, ey, hD10, hz10, nx⟩ => ?_
        subst ey
        exact addK_go (X := X.blk s3 H3 scope ce fp) I10 hD10 hz10 r10 fun s11 I11 => fin I11 nx
end

/-! ### counted -/
section
variable {X : Cx}
def rLenK (P : Program) (w : World) : List V → Hp → VK → Prop := fun xs H Q => ∃ (a : Addr) (S : Key → Bool) (n : Nat), xs = [.ref a] ∧ H a = some (SetK P w a S n) ∧ Q (.int n) H
theorem call_lenK : CallR X (.builtin "len") (rLenK X.prog X.w) := by
  intro pins s σ H xs us Q I r h
  obtain ⟨a, S, n, rfl, ha, q⟩ := h
  cases r with
  | cons r1 rt =>
    cases rt
    cases r1
    obtain ⟨o, es, ep, t, ho, hex, hd, _, _, hb, hf, hn⟩ := setK_get I ha
    refine call_len_set ho hex hd hf ?_ ⟨.int n, H, I.tok _, ⟨_, by rw [hn]⟩, q⟩
    have : scanBound = 4096 := rfl
    omega
end
theorem codeO_ne {P : Program} {w : World} {D c : Addr} {q : Str} {S : Key → Bool} {n : Nat} : LamX.CodeO c q ≠ SetK P w D S n ∨ c ≠ D := by
  by_cases e : c = D
  · subst e
    refine .inl fun z => ?_
    have z : (fun h : Heap => ∃ (oc : Obj) (vs : Array Value) (t : Tok), h.get? c = some oc ∧ oc.data = .fields vs ∧ vs[1]? = some (.str q t)) = fun h => h.SetOf (mixKind P w) c S n := by
      unfold LamX.CodeO SetK at z
      exact HO.ext.inj z
    let ob : Obj := { cls := .none, data := .fields #[.none, .str q 0] }
    let h : Heap := { objs := Array.replicate (c + 1) ob }
    have hg : h.get? c = some ob := by
      have : h.objs[c]? = some ob := by simp [h]
      unfold Heap.get?
      rw [this]
    have hh := congrFun z h
    have : h.SetOf (mixKind P w) c S n := by
      rw [← hh]
      exact ⟨ob, _, 0, hg, rfl, rfl⟩
    obtain ⟨o, es, ep, t, ho, hex, hd, _⟩ := this
    rw [hg] at ho
    cases ho
    cases hd
  · exact .inr e
section
variable {G : Gx} {σ : St} {H H' : Hp} {S : Sl} {ts : Tmp} {B : Hp} {F : List Addr} {P : Program} {w : World}
theorem tabs_setK {T : List (Addr × Str)} {D : Addr} {s s' : Key → Bool} {n n' : Nat} (t : LamX.Tabs T H) (h : H D = some (SetK P w D s n)) : LamX.Tabs T (upd H D (SetK P w D s' n')) := fun p hp => by
  obtain ⟨ps, h1, h2, h3⟩ := t p hp
  refine ⟨ps, ?_, h2, fun pos cv hc => ?_⟩
  · rw [upd_ne (ne_of h1 h (fun z => by cases z))]
    exact h1
  · obtain ⟨c, e1, e2⟩ := h3 pos cv hc
    refine ⟨c, e1, ?_⟩
    have ne : c ≠ D := by
      rcases codeO_ne (P := P) (w := w) (D := D) (c := c) (q := p.2) (S := s) (n := n) with z | z
      · intro e
        subst e
        rw [h] at e2
        exact z (Option.some.inj e2).symm
      · exact z
    rw [upd_ne ne]
    exact e2
/-- an untold set changes -/
theorem Sta.setK {D : Addr} {s s' : Key → Bool} {n n' : Nat} (st : Sta G σ H S ts B F) (h : H D = some (SetK P w D s n)) (hb : B D = none) (hf : D ∉ F) : Sta G σ (upd H D (SetK P w D s' n')) S ts B F := by
  obtain ⟨F1, F2, o1, o2, p⟩ := st.own
  have kp : ∀ a ∈ F, ∀ u, H a = some u → upd H D (SetK P w D s' n') a = some u := fun a ha u e => by rw [upd_ne (fun z : a = D => hf (z ▸ ha))]; exact e
  refine ⟨⟨fun a o e => ?_, st.sub.nt⟩, tabs_setK st.tabs h, ⟨F1, F2, o1.mono (Le.refl _) fun a ha => kp a (p.mem_iff.mpr (List.mem_append_left _ ha)), o2.mono (Le.refl _) fun a ha => kp a (p.mem_iff.mpr (List.mem_append_right _ ha)), p⟩, st.nd, st.apart⟩
  have ne : a ≠ D := fun z => by rw [z, hb] at e; cases e
  rw [upd_ne ne]
  exact st.sub a o e
theorem Ch.updD {H1 B1 : Hp} {F1 : List Addr} {D : Addr} {o : HO} (c : Ch H B F H1 B1 F1) (h : D ∈ F ∨ ¬ Live H D) : Ch H B F (upd H1 D o) B1 F1 :=
  ⟨fun a u e n hf => by
    have ne : a ≠ D := fun z => by
      subst z
      exact h.elim hf fun q => q ⟨u, e, n⟩
    rw [upd_ne ne]; exact c.keep a u e n hf, c.le, c.own, c.fresh⟩
theorem Ch.aside {H1 B1 : Hp} {F1 : List Addr} {D : Addr} {s : Key → Bool} {n : Nat} (c : Ch H B F H1 B1 F1) (h : H D = some (SetK P w D s n)) (hb : B D = none) (hf : D ∉ F) : H1 D = some (SetK P w D s n) ∧ B1 D = none ∧ D ∉ F1 := by
  have lv : Live H D := ⟨_, h, fun ps z => by cases z⟩
  refine ⟨c.keep D _ h (fun ps z => by cases z) hf, ?_, fun z => (c.own D z).elim hf fun q => q lv⟩
  cases q : B1 D with
  | none => rfl
  | some o =>
    rcases c.fresh D o q with z | z | z
    · rw [hb] at z; cases z
    · exact absurd z hf
    · exact absurd lv z
end
def hasK (acc : List Key) (k : Key) : Bool := acc.any fun j => decide (j = k)
def putK (acc : List Key) (k : Key) : List Key := if hasK acc k = true then acc else acc ++ [k]
def distK (acc : List Key) : List Key → List Key
  | [] => acc
  | k :: ks => distK (putK acc k) ks
def W.key : W → Option Key
  | .fr d => d.key
  | _ => none
def keysW : List W → Option (List Key)
  | [] => some []
  | w :: ws => match w.key, keysW ws with
    | some k, some ks => some (k :: ks)
    | _, _ => none
def mLenSet (own : List Nat) (fi : M (List D)) (b : Tgt) (c : M Bool) (f : M W) : M W := bindM fi fun ds => fun S => if ds.length < 4000 then
    match mCompL own b c f ds (wipeS S own) with
    | some (ws, S') => match keysW ws with
      | some ks => some (.ok (.fr (.int ((distK [] ks).length : Nat))), restS S S' own)
      | none => none
    | none => none
  else none
theorem keysW_cons {w : W} {ws : List W} {ks : List Key} (e : keysW (w :: ws) = some ks) : ∃ k ks', w.key = some k ∧ keysW ws = some ks' ∧ ks = k :: ks' := by
  unfold keysW at e
  split at e
  · cases e; exact ⟨_, _, by assumption, by assumption, rfl⟩
  · cases e
section
variable {T : Tx} {X : Cx} {Xw : WX} {pos : Pos}
theorem lenSet_go {σ : St} {H : Hp} {Q : VK} {fi : M (List D)} {own : List Nat} {g : TG} {b : Tgt} {tc : M Bool} {f : M W}
    (hg : ∀ {σ : St} {H B : Hp} {F : List Addr} {S S' : Sl} {ts : Tmp} {d : D} {v : V} {Q : St → Hp → Prop}, Sta (gx X T) σ H S ts B F → Rep (gx X T) B d v → b d S = some S' →
      (∀ σ' F', Sta (gx X T) σ' H S' ts B F' → Ch H B F H B F' → Alike own σ σ' → Q σ' H) → g v σ H Q)
    (h : rdG kW (gx X T) σ H Xw Q (mLenSet own fi b tc f)) :
    tScK X.prog X.w (rdI (gx X T) Xw fi) g (fun σ H Q => rdG kB (gx X T) σ H X0 Q tc) (fun σ H Q => rdG kW (gx X T) σ H X0 Q f) own σ H (fun v H1 => rLenK X.prog X.w [v] H1 Q) := by
  obtain ⟨S, B, F, o, S', st, e, w⟩ := h
  unfold mLenSet bindM at e
  cases e1 : fi S with
  | none => rw [e1] at e; cases e
  | some q =>
    obtain ⟨r, S1⟩ := q
    rw [e1] at e
    cases r with
    | ex c =>
      cases e
      exact ⟨S, B, F, _, _, st, e1, w⟩
    | ok ds =>
      dsimp only at e
      split at e
      · rename_i hz
        split at e
        · rename_i ws S9 e2
          split at e
          · rename_i ks ek
            cases e
            refine ⟨S, B, F, _, S1, st, e1, fun J H1 B1 F1 st1 c1 it D hD => ?_⟩
            obtain ⟨F2, s2, c2⟩ := st1.wipe own
            have gr : Grow H1 (upd H1 D (SetK X.prog X.w D (fun _ => false) 0)) := .new hD
            have s3 := s2.grow gr
            have c3 : Ch H B F (upd H1 D (SetK X.prog X.w D (fun _ => false) 0)) B1 F2 := c1.trans (c2.trans (.grow gr))
            have hfr : D ∉ F2 := fun z => not_live hD (s2.live z)
            refine ⟨fun i m H4 => m = ds.length - i ∧ i ≤ ds.length ∧ ∃ S4 B4 F4 acc more ks', Sta (gx X T) (L2.wipe σ own) H4 S4 [] B4 F4 ∧ Ch H B F H4 B4 F4 ∧ Le B1 B4 ∧ (∀ j ∈ own, (S4[j]?).join = none) ∧ H4 D = some (SetK X.prog X.w D (hasK acc) acc.length) ∧ B4 D = none ∧ D ∉ F4 ∧ acc.length ≤ i ∧
              mCompL own b tc f (ds.drop i) S4 = some (more, S9) ∧ keysW more = some ks' ∧ distK acc ks' = distK [] ks, ⟨ds.length, by simp, Nat.zero_le _, _, B1, _, [], ws, ks, s3, c3, Le.refl _, fun j hj => wipeS_in hj, ?_, fresh_b st1.sub hD, hfr, Nat.le_refl _, e2, ek, rfl⟩, ?_⟩
            · rw [upd_same]; rfl
            rintro i m H4 ⟨rfl, hil, S4, B4, F4, acc, more, ks', st4, c5, l4, hw4, hK, hb4, hf4, hacc, e4, ek4, hout⟩
            obtain ⟨hstop, hgo⟩ := it B4 H4 l4 st4.sub
            by_cases hlt : i < ds.length
            · have hd : ds[i]? = some ds[i] := List.getElem?_eq_getElem hlt
              rw [List.drop_eq_getElem_cons hlt] at e4
              obtain ⟨go1, yld1⟩ := hgo i _ hd
              refine .inr ⟨go1, fun H' => ∃ S4 B4 F4 acc more ks', Sta (gx X T) (L2.wipe σ own) H' S4 [] B4 F4 ∧ Ch H B F H' B4 F4 ∧ Le B1 B4 ∧ (∀ j ∈ own, (S4[j]?).join = none) ∧ H' D = some (SetK X.prog X.w D (hasK acc) acc.length) ∧ B4 D = none ∧ D ∉ F4 ∧ acc.length ≤ i + 1 ∧
                mCompL own b tc f (ds.drop (i + 1)) S4 = some (more, S9) ∧ keysW more = some ks' ∧ distK acc ks' = distK [] ks, fun H' q => ⟨ds.length - (i + 1), by omega, rfl, hlt, q⟩, fun x H5 y => ?_⟩
              obtain ⟨B5, gr5, l5, sb5, fr5, rp⟩ := yld1 x H5 y
              obtain ⟨st5, c6⟩ := st4.up gr5 l5 sb5 fr5
              obtain ⟨hK5, hb5, hf5⟩ := c6.aside hK hb4 hf4
              unfold mCompL at e4
              split at e4
              · cases e4
              · rename_i S5 eb
                refine hg st5 rp eb fun τ F6 st6 c7 al => ⟨(al.wipe).trans wipe_idem, ?_⟩
                have hwt : L2.wipe τ own = L2.wipe σ own := (al.wipe).trans wipe_idem
                obtain ⟨hK6, hb6, hf6⟩ := c7.aside hK5 hb5 hf5
                have c8 := c5.trans (c6.trans c7)
                have again : ∀ {S7 : Sl} {H7 B7 : Hp} {F7 : List Addr} {acc' : List Key} {more' : List W} {ks' : List Key}, Sta (gx X T) τ H7 S7 [] B7 F7 → Ch H B F H7 B7 F7 → Le B1 B7 → H7 D = some (SetK X.prog X.w D (hasK acc') acc'.length) → B7 D = none → D ∉ F7 → acc'.length ≤ i + 1 →
                    mCompL own b tc f (ds.drop (i + 1)) (wipeS S7 own) = some (more', S9) → keysW more' = some ks' → distK acc' ks' = distK [] ks →
                    ∃ S4 B4 F4 acc more ks', Sta (gx X T) (L2.wipe σ own) H7 S4 [] B4 F4 ∧ Ch H B F H7 B4 F4 ∧ Le B1 B4 ∧ (∀ j ∈ own, (S4[j]?).join = none) ∧ H7 D = some (SetK X.prog X.w D (hasK acc) acc.length) ∧ B4 D = none ∧ D ∉ F4 ∧ acc.length ≤ i + 1 ∧
                      mCompL own b tc f (ds.drop (i + 1)) S4 = some (more, S9) ∧ keysW more = some ks' ∧ distK acc ks' = distK [] ks := by
                  intro S7 H7 B7 F7 acc' more' ks' st7 c9 l7 hk hb hf ha he hke hdi
                  obtain ⟨F8, s8, c10⟩ := st7.wipe own
                  rw [hwt] at s8
                  obtain ⟨hk', hb', hf'⟩ := c10.aside hk hb hf
                  exact ⟨_, B7, F8, acc', more', ks', s8, c9.trans c10, l7, fun j hj => wipeS_in hj, hk', hb', hf', ha, he, hke, hdi⟩
                split at e4
                · rename_i S6 et
                  split at e4
                  · rename_i wv S7 ef
                    obtain ⟨⟨more2, S10⟩, e5, e6⟩ := Option.map_eq_some_iff.mp e4
                    cases e6
                    refine rdG.frame (k := kB) st6 et fun b' H6 B6 F7 kb st7 c9 => ?_
                    have kb : true = b' := kb
                    subst kb
                    refine iteT ?_
                    have st7 : Sta (gx X T) τ H6 S6 [] B6 F7 := st7
                    obtain ⟨hK7, hb7, hf7⟩ := c9.aside hK6 hb6 hf6
                    refine rdG.frame (k := kW) st7 ef fun yv H7 B7 F8 _ st8 c10 => ?_
                    have st8 : Sta (gx X T) τ H7 S7 [(yv, wv)] B7 F8 := st8
                    obtain ⟨hK8, hb8, hf8⟩ := c10.aside hK7 hb7 hf7
                    obtain ⟨k, ks2, ew, ek2, rfl⟩ := keysW_cons ek4
                    have ey : yv = kV k := by
                      cases wv with
                      | fr d => exact ((st8.held (List.mem_cons_self ..)).rep).key ew
                      | _ => cases ew
                    obtain ⟨F9, st9, c11⟩ := Sta.drop2 st8
                    obtain ⟨hK9, hb9, hf9⟩ := c11.aside hK8 hb8 hf8
                    have hz2 : acc.length + 1 < scanBound := by
                      have : scanBound = 4096 := rfl
                      omega
                    refine ⟨k, _, _, ey, hK9, hz2, ?_⟩
                    have hS : (fun j => hasK acc j || decide (j = k)) = hasK (putK acc k) := by
                      funext j
                      unfold putK
                      split
                      · rename_i hk
                        by_cases hj : j = k
                        · subst hj; simp [hk]
                        · simp [hj]
                      · simp [hasK, eq_comm]
                    have hN : (if hasK acc k = true then acc.length else acc.length + 1) = (putK acc k).length := by
                      unfold putK
                      split <;> simp
                    have cc := (c8.trans (c9.trans (c10.trans c11))).updD (D := D) (o := SetK X.prog X.w D (fun j => hasK acc j || decide (j = k)) (if hasK acc k = true then acc.length else acc.length + 1)) ?_
                    · refine again (acc' := putK acc k) (more' := more2) (ks' := ks2) (st9.setK hK9 hb9 hf9) cc (l4.trans (l5.trans (c7.le.trans (c9.le.trans (c10.le.trans c11.le))))) ?_ hb9 hf9 ?_ e5 ek2 hout
                      · rw [upd_same, hS, hN]
                      · rw [← hN]
                        split <;> omega
                    · exact c1.back (not_live hD)
                  · cases e4
                · rename_i S6 et
                  refine rdG.frame (k := kB) st6 et fun b' H6 B6 F7 kb st7 c9 => ?_
                  have kb : false = b' := kb
                  subst kb
                  refine iteF ?_
                  obtain ⟨hK7, hb7, hf7⟩ := c9.aside hK6 hb6 hf6
                  exact again (acc' := acc) (more' := more) (ks' := ks') st7 (c8.trans c9) (l4.trans (l5.trans (c7.le.trans c9.le))) hK7 hb7 hf7 (by omega) e4 ek4 hout
                · cases e4
            · have hi' : i = ds.length := by omega
              subst hi'
              rw [List.drop_length] at e4
              cases e4
              cases ek4
              refine .inl ⟨hstop, D, _, _, rfl, hK, ?_⟩
              have s5 := st4.unwipe hw4
              obtain ⟨F7, s6, c8⟩ := s5.rest (S0 := S1) (is := own) fun j hj d ej => by
                obtain ⟨v, ev, p⟩ := st1.park ej
                exact ⟨v, ev, ((p.held (List.mem_cons_self ..)).rep).mono l4⟩
              have hout : acc = distK [] ks := hout
              rw [hout]
              exact w _ H4 B4 F7 trivial (s6.old .int) (c5.trans c8)
          · cases e
        · cases e
      · cases e
end

section
variable {T : Tx} {X : Cx} {Xw : WX} {pos : Pos}
/-- len({elt for target in iter if ..}) -/
theorem pv_lenSetC {elt tg iter : Expr} {ifs : List Expr} {scope : Scope} {own : List (Str × Nat)} {sl : List Nat} {g : TG} {b : Tgt} {fi : M (List D)} {tc : M Bool} {f : M W} {p p2 : Pos} (hc : X.calm = true) (hN : X.N.Nodup) (hgl : Gl X "len") (hm : X.mg "len" = none) (hi : PIV T X Xw tg iter fi) (ok : BlkOk X.N X.env.scope scope own)
    (hg : ∀ (s : Shared) (H : Hp) (C : Addr) (cl : List (Str × Addr)) (fp : List Addr), PGV T (X.blk s H scope (compEnvC scope cl C X.env) fp) sl tg g b)
    (ht : ∀ (s : Shared) (H : Hp) (C : Addr) (cl : List (Str × Addr)) (fp : List Addr), PBs T (X.blk s H scope (compEnvC scope cl C X.env) fp) X0 ifs tc)
    (he : ∀ (s : Shared) (H : Hp) (C : Addr) (cl : List (Str × Addr)) (fp : List Addr), PV T (X.blk s H scope (compEnvC scope cl C X.env) fp) X0 elt f)
    (hsl : ∀ i ∈ sl, i ∈ own.map (·.2) := by decide) (hs : ∀ x, foldedSetIterable iter X.env x = pure x := by intro _; rfl)
    (hb : starEach [.SetComp elt [⟨tg, iter, ifs, 0⟩] scope pos] X.env = (false, eval (.SetComp elt [⟨tg, iter, ifs, 0⟩] scope pos) X.env) :: starEach [] X.env := by rfl) (hpl : (backTo p2 (starEach [] X.env)).any (·.1) = false := by rfl) :
    PV T X Xw (.Call (.Name "len" p) [.SetComp elt [⟨tg, iter, ifs, 0⟩] scope pos] [] p2) (mLenSet (own.map (·.2)) fi b tc f) :=
  peImp (pe_callB call_lenK hgl hm boot_len (pa_cons (pe_scK (tt := fun σ H Q => rdG kB (gx X T) σ H X0 Q tc) (te := fun σ H Q => rdG kW (gx X T) σ H X0 Q f) hc hN hi ok (fun s H C cl fp => (hg s H C cl fp).pg) ht he hs) pa_nil hb) (by decide) (by decide) hb hpl) fun σ H Q h =>
    lenSet_go (fun {σ H B F S S' ts d v Q} st r e k => (hg {} H 0 [] []).go st r e fun σ' F' s c a => k σ' F' s c (a.wide hsl)) h
end
/-! ### isinstance -/
inductive Ty where
  | non | bl | int | str | tup | lst | dct
  deriving DecidableEq
def Ty.name : Ty → String
  | .non => "NoneType" | .bl => "bool" | .int => "int" | .str => "str" | .tup => "tuple" | .lst => "list" | .dct => "dict"
def isT (a b : Ty) : Bool := decide (a = b) || (decide (a = .bl) && decide (b = .int))
theorem kit_isT (a b : Ty) (h : b ≠ .non) : kitB a.name b.name = some (isT a b) := by
  cases a <;> cases b <;> first | exact absurd rfl h | decide +kernel
def D.ty : D → Option Ty
  | .non => some .non | .bl _ => some .bl | .int _ => some .int | .str _ => some .str | .tup _ => some .tup | .lst _ => some .lst | .scr _ => some .lst | .dct _ => some .dct
  | .obj _ _ => none
  | .exc => none
def W.ty : W → Option Ty
  | .fr d => d.ty
  | .lst _ => some .lst | .tup _ => some .tup | .dct _ => some .dct
  | .obj _ _ => none
theorem tyL {K : PySem.W.Frag} {H : Hp} {a : Addr} {xs : List V} (h : SqL K H a xs) : TyX K H (.ref a) (.type "list") := by
  rcases h with (h | ⟨ob, h⟩) | ⟨o, its, n, h, c, _⟩
  · exact .base (.lst h)
  · exact .base (.frz h)
  · exact .kList h c
theorem tyT {K : PySem.W.Frag} {H : Hp} {a : Addr} {xs : List V} (h : SqT K H a xs) : TyX K H (.ref a) (.type "tuple") := by
  rcases h with (h | ⟨ob, h⟩) | ⟨o, its, n, h, c, _⟩
  · exact .base (.tup h)
  · exact .fTuple h
  · exact .kTuple h c
theorem Vw.tyX {G : Gx} {B H : Hp} {w : W} {v : V} {t : Ty} (h : Vw G B H w v) (s : Sub B H) (e : w.ty = some t) : TyX G.K H v (.type t.name) := by
  obtain ⟨F, o⟩ := h
  cases o with
  | fr r =>
    cases r with
    | non => cases e; exact .base .non
    | bl => cases e; exact .base (.bl _)
    | int => cases e; exact .base (.int _)
    | str => cases e; exact .base (.str _)
    | tup h _ => cases e; exact tyT (sqT_sub s h)
    | lst h _ => cases e; exact tyL (sqL_sub s (SqL.of h))
    | scr h => cases e; exact tyL (sqL_sub s h)
    | dct h _ =>
      cases e
      rcases s _ _ h with q | ⟨_, ob, q⟩
      · exact .base (.dK q)
      · exact .fDict q
    | obj _ _ _ => cases e
    | exc _ _ => cases e
  | lst h _ => cases e; exact .base (.lst h)
  | tup h _ => cases e; exact .base (.tup h)
  | dct h _ => cases e; exact .base (.dK h)
  | obj _ _ _ => cases e
/-- one operand -/
def mOp1 (rv : W → Option W) (f : M Opd) : M W := bindM f fun o => fun S => match o.get S with
  | some w => (rv w).map fun w => (.ok w, S)
  | none => none
def rvIsi (t : Ty) (w : W) : Option W := w.ty.map fun a => .fr (.bl (isT a t))
def rvIsi2 (t u : Ty) (w : W) : Option W := w.ty.map fun a => .fr (.bl (isT a t || isT a u))
section
variable {T : Tx} {X : Cx} {Xw : WX} {pos : Pos}
/-- isinstance(e, t) -/
theorem pv_isi {e : Expr} {f : M Opd} {x : Str} {p p2 : Pos} (t : Ty) (hg : Gl X "isinstance") (hm : X.mg "isinstance" = none) (hgt : Gl X x) (hmt : X.mg x = none) (hv : bootBuiltins x = some (.type t.name)) (he : PO T X Xw e f) (ht : t ≠ .non := by decide)
    (hn : x ≠ "__name__" := by decide) (hd : (x == ("__debug__" : Str)) = false := by decide) (hb : starEach [e, .Name x p2] X.env = (false, eval e X.env) :: starEach [.Name x p2] X.env := by rfl) (hb2 : starEach [.Name x p2] X.env = (false, eval (.Name x p2) X.env) :: starEach [] X.env := by rfl) (hpl : (backTo pos (starEach [.Name x p2] X.env)).any (·.1) = false := by rfl) :
    PV T X Xw (.Call (.Name "isinstance" p) [e, .Name x p2] [] pos) (mOp1 (rvIsi t) f) :=
  peImp (pe_callB call_isi hg hm boot_isinstance (pa_cons he (pa_cons (pe_bltn (v := .ty t.name) hgt hmt hv rfl hn hd) pa_nil hb2) hb) (by decide) (by decide) hb hpl) fun σ H Q h => by
    obtain ⟨B, F, R⟩ := h.start
    refine (R.step (k1 := kO)).mono fun x H1 ⟨a, ka, R1⟩ => R1.done fun S B1 F1 o S' st c e wn => ?_
    split at e
    · rename_i w ew
      obtain ⟨u, e1, e2⟩ := Option.map_eq_some_iff.mp e
      cases e2
      obtain ⟨ty, e3, rfl⟩ := Option.map_eq_some_iff.mp e1
      have vw := st.opd (fun z hz => List.mem_append_left _ hz) ka ew
      exact ⟨x, .ty t.name, _, _, _, rfl, .ty _, vw.tyX st.sub e3, kit_ty (kit_isT _ _ ht), (wn.new st c).bl st.sub⟩
    · cases e
/-- isinstance(e, (t, u)) -/
theorem pv_isi2 {e : Expr} {f : M Opd} {x y : Str} {p p2 p3 p4 : Pos} {k : Nat} (t u : Ty) (hg : Gl X "isinstance") (hm : X.mg "isinstance" = none) (hgt : Gl X x) (hmt : X.mg x = none) (hv : bootBuiltins x = some (.type t.name)) (hgu : Gl X y) (hmu : X.mg y = none) (hvu : bootBuiltins y = some (.type u.name)) (he : PO T X Xw e f) (ht : t ≠ .non := by decide) (hu : u ≠ .non := by decide)
    (hn : x ≠ "__name__" := by decide) (hd : (x == ("__debug__" : Str)) = false := by decide) (hn' : y ≠ "__name__" := by decide) (hd' : (y == ("__debug__" : Str)) = false := by decide)
    (hb : starEach [e, .Tuple [.Name x p2, .Name y p3] k p4] X.env = (false, eval e X.env) :: starEach [.Tuple [.Name x p2, .Name y p3] k p4] X.env := by rfl) (hb2 : starEach [.Tuple [.Name x p2, .Name y p3] k p4] X.env = (false, eval (.Tuple [.Name x p2, .Name y p3] k p4) X.env) :: starEach [] X.env := by rfl)
    (hb3 : starEach [.Name x p2, .Name y p3] X.env = (false, eval (.Name x p2) X.env) :: starEach [.Name y p3] X.env := by rfl) (hb4 : starEach [.Name y p3] X.env = (false, eval (.Name y p3) X.env) :: starEach [] X.env := by rfl)
    (hpl : (backTo pos (starEach [.Tuple [.Name x p2, .Name y p3] k p4] X.env)).any (·.1) = false := by rfl) :
    PV T X Xw (.Call (.Name "isinstance" p) [e, .Tuple [.Name x p2, .Name y p3] k p4] [] pos) (mOp1 (rvIsi2 t u) f) :=
  peImp (pe_callB call_isiT hg hm boot_isinstance (pa_cons he (pa_cons (pe_tup (pa_cons (pe_bltn (v := .ty t.name) hgt hmt hv rfl hn hd) (pa_cons (pe_bltn (v := .ty u.name) hgu hmu hvu rfl hn' hd') pa_nil hb4) hb3)) pa_nil hb2) hb) (by decide) (by decide) hb hpl) fun σ H Q h => by
    obtain ⟨B, F, R⟩ := h.start
    refine (R.step (k1 := kO)).mono fun x H1 ⟨a, ka, R1⟩ => R1.done fun S B1 F1 o S' st c e wn => ?_
    split at e
    · rename_i w ew
      obtain ⟨z, e1, e2⟩ := Option.map_eq_some_iff.mp e
      cases e2
      obtain ⟨ty, e3, rfl⟩ := Option.map_eq_some_iff.mp e1
      refine ⟨by show 2 ≤ sizeLine; rw [sizeLine_eq]; omega, fun P hP => ?_⟩
      have gr : Grow H1 (upd H1 P (.tup [.ty t.name, .ty u.name])) := .new hP
      have st2 := st.grow gr
      have vw := st2.opd (fun z hz => List.mem_append_left _ hz) ka ew
      have k1 : PySem.W.kitAny X.K (.type ty.name) [.type t.name, .type u.name] = some (isT ty t || isT ty u) :=
        kitAny_cons (kit_ty (kit_isT _ _ ht)) (fun h1 => by rw [h1]; exact kitAny_cons (r := isT ty u) (kit_ty (kit_isT _ _ hu)) (fun h2 => by rw [h2]; rfl) (fun h2 => h2)) (fun h1 => by rw [h1]; rfl)
      exact ⟨x, P, _, _, _, _, rfl, upd_same, .cons (.ty _) (.cons (.ty _) .nil), vw.tyX st2.sub e3, k1, (wn.new st2 (c.trans (.grow gr))).bl st2.sub⟩
    · cases e
/-- what is never reached -/
def mOff {α : Type} : M α := fun _ => none
def mOffS : MS := fun _ => none
theorem psv_off {st : Stmt} : PSV T X Xw P st mOffS := ⟨fun pins s σ H D I h => by
  obtain ⟨S, B, F, o, S', _, e, _⟩ := h
  cases e⟩
theorem psl_off {st : List Stmt} : PSL T X Xw P st mOffS := ⟨fun pins s σ H D I h => by
  obtain ⟨S, B, F, o, S', _, e, _⟩ := h
  cases e⟩
theorem pv_off {e : Expr} : PV T X Xw e mOff := ⟨fun pins s σ H Q I h => by
  obtain ⟨S, B, F, o, S', _, e, _⟩ := h
  cases e⟩
theorem pb_off {e : Expr} : PB T X Xw e mOff := ⟨fun pins s σ H Q I h => by
  obtain ⟨S, B, F, o, S', _, e, _⟩ := h
  cases e⟩
end
end VD

set_option Elab.async false
set_option linter.all false
set_option maxRecDepth 100000
set_option maxHeartbeats 2000000
namespace VD
open PySem PySem.Spec PyProof.Rows L2

theorem takesX {X : Cx} : L2N.Takes X X0 := fun u s' ⟨a, B, sI, pins, σ, H, cls, d, e, I, nb, up, sky, na, os, ag, w⟩ => w.elim
/-- a function of the module that does as F says -/
structure FnV (P : Program) (w : World) (K : PySem.W.Frag) (mg : Str → Option Value) (base : Heap) (T : Tx) (x : Str) (ps : List Str) (k : Nat) (F : Fn) : Prop where
  mgx : mg x = some (.ref (He.ga K x))
  kp : PySem.W.keepIn K (.ref (He.ga K x)) = true
  ok : ∃ fd, Binds K fd ps [] ∧ FnOk P w K mg base (L2N.CX P w) k (He.ga K x) fd ps (spV ⟨K, mg, T⟩ F)
def mCall0 (F : Fn) : M W := fun S => match F [] with
  | some (.ok w, []) => some (.ok w, S)
  | _ => none
section
variable {T : Tx} {X : Cx} {Xw : WX} {pos : Pos}
theorem pv_fn {k k' : Nat} {ps : List Str} {F : Fn} {x : Str} {p : Pos} {e : Expr} {es : List Expr} {g : M (List Opd)} (fv : FnV X.prog X.w X.K X.mg X.base T x ps k F) (tk : L2N.Takes X Xw) (hr : Room k' X.A) (ha : PAO T X Xw (e :: es) g) (hg : Gl X x := by rfl) (hk : k ≤ k' := by decide)
    (hdb : (x == ("__debug__" : Str)) = false := by decide) (he : starEach (e :: es) X.env = (false, eval e X.env) :: starEach es X.env := by rfl) (hpl : (backTo pos (starEach es X.env)).any (·.1) = false := by rfl) :
    PV T X Xw (.Call (.Name x p) (e :: es) [] pos) (mCallF F g) := by
  obtain ⟨fd, hb, Fo⟩ := fv.ok
  exact pv_call tk Fo (hr.mono hk) hg fv.mgx fv.kp hb ha hdb he hpl
theorem pv_fn0 {k k' : Nat} {F : Fn} {x : Str} {p : Pos} (fv : FnV X.prog X.w X.K X.mg X.base T x [] k F) (hr : Room k' X.A) (hg : Gl X x := by rfl) (hk : k ≤ k' := by decide) (hdb : (x == ("__debug__" : Str)) = false := by decide) :
    PV T X Xw (.Call (.Name x p) [] [] pos) (mCall0 F) := by
  obtain ⟨fd, hb, Fo⟩ := fv.ok
  refine peImp (pe_call0 (E := fun _ _ _ => False) Fo (hr.mono hk) hg fv.mgx fv.kp hb .nil (fun _ _ _ _ _ _ _ h => ?_) hdb) fun σ H Q h => ?_
  · obtain ⟨_, _, _, _, _, _, _, _, _, _, _, _, h⟩ := h
    exact h.elim
  · obtain ⟨S, B, F0, o, S', st, e, wn⟩ := h
    unfold mCall0 at e
    split at e
    · rename_i w eF
      cases e
      obtain ⟨Fa, Fb, s1, s2, p⟩ := Sta.split (ts := []) (ts' := []) (by simpa using st)
      refine ⟨[], B, Fb, .ok w, [], rfl, s2, eF, fun v H' B' F' st' c' => ?_⟩
      obtain ⟨j1, j2⟩ := Sta.join2 (ts := []) (ts' := [(v, w)]) st' c' s1 p st.nd
      exact wn v H' B' _ trivial j1 j2
    · cases e
/-- a def keeps its promise -/
theorem FnV.of {P : Program} {w : World} {K : PySem.W.Frag} {mg : Str → Option Value} {base : Heap} {params : Arguments} {body : List Stmt} {scope : Scope} {N ps : List Str} {x qual : Str} {k : Nat} {m : MS} (hm : mg x = some (.ref (He.ga K x))) (Fd : ∃ fd, FunD K x qual params body scope [] [] (He.ga K x) fd) (Sc : FnScope N ps scope)
    (hb : ∀ (kV doc pm : Value) (an : Option Addr) (cdv ct : Value) (us : List Value), us.length = ps.length → bindArgs (PySem.W.fnOf x qual params body scope .none kV doc pm an cdv ct) ⟨us, []⟩ = pure (ps.zip us))
    (hbody : ∀ (cdv : Value) (A : Around) (outer : List Env) (s : Shared) (H : Hp) (E : XK), Room k (A.deeper (envOfC qual scope s.heap.objs.size (He.ga K x) cdv)) →
      PSL T (cxOf (L2N.CX P w) P w K mg base N qual scope (He.ga K x) cdv A outer s H E) (fun cls d _ H => E cls d H) ps.length body m) : FnV P w K mg base T x ps (k + 1) (mkF N.length ps.length m) := by
  obtain ⟨fd, F⟩ := Fd
  exact ⟨hm, F.kp, fd, F.bindsN hb, fnV F Sc hbody⟩
section
variable {P : Program} {w : World} {K : PySem.W.Frag} {mg : Str → Option Value} {base : Heap} {N : List Str} {qual : Str} {scope : Scope} {f : Addr} {cd : Value} {A : Around} {outer : List Env} {s : Shared} {H : Hp} {E : XK}
theorem takesC : L2N.Takes (cxOf (L2N.CX P w) P w K mg base N qual scope f cd A outer s H E) (fun cls d _ H => E cls d H) := L2N.takes_of rfl rfl rfl rfl
theorem passC : PassesOwn (model P w) (cxOf (L2N.CX P w) P w K mg base N qual scope f cd A outer s H E).A (cxOf (L2N.CX P w) P w K mg base N qual scope f cd A outer s H E).env (cxOf (L2N.CX P w) P w K mg base N qual scope f cd A outer s H E).xe := passes_of rfl
end
/-- the head's facts -/
structure Ev (fa : List He.Fa) (fn : List He.DefD) (K : PySem.W.Frag) (mg : Str → Option Value) : Prop where
  c : He.SaysD fa fn K
  h : ∃ h : Heap, K.In h ∧ h.Ns mainGlobals mg
section
variable {fa : List He.Fa} {fn : List He.DefD} {K : PySem.W.Frag} {mg : Str → Option Value}
theorem Ev.glo (E : Ev fa fn K mg) (i : Nat) {x : Str} (h : fa[i]? = some (.glo x) := by rfl) : mg x = some (.ref (He.ga K x)) := by
  obtain ⟨hp, X, G⟩ := E.h
  exact He.glo_ok X G (E.c.fact i h)
theorem Ev.free (E : Ev fa fn K mg) (i : Nat) {x : Str} (h : fa[i]? = some (.free x) := by rfl) : mg x = none := by
  obtain ⟨hp, X, G⟩ := E.h
  exact He.free_ok X G (E.c.fact i h)
theorem Ev.str (E : Ev fa fn K mg) (i : Nat) {x z : Str} (h : fa[i]? = some (.str x z) := by rfl) : ∃ t, mg x = some (.str z t) := by
  obtain ⟨hp, X, G⟩ := E.h
  exact He.str_ok X G (E.c.fact i h)
theorem Ev.int (E : Ev fa fn K mg) (i : Nat) {x : Str} {z : Int} (h : fa[i]? = some (.int x z) := by rfl) : ∃ t, mg x = some (.int z t) := by
  obtain ⟨hp, X, G⟩ := E.h
  exact He.int_ok X G (E.c.fact i h)
end
section
theorem pv_gstr {x z : Str} (hm : ∃ t, X.mg x = some (.str z t)) (hg : Gl X x := by rfl) (hd : (x == ("__debug__" : Str)) = false := by decide) : PV T X Xw (.Name x pos) (pureM (.fr (.str z))) := by
  obtain ⟨t, e⟩ := hm
  exact pv_glob (v := .str z) hg e ⟨t, rfl⟩ (fun _ => .str) hd
theorem pv_gint {x : Str} {z : Int} (hm : ∃ t, X.mg x = some (.int z t)) (hg : Gl X x := by rfl) (hd : (x == ("__debug__" : Str)) = false := by decide) : PV T X Xw (.Name x pos) (pureM (.fr (.int z))) := by
  obtain ⟨t, e⟩ := hm
  exact pv_glob (v := .int z) hg e ⟨t, rfl⟩ (fun _ => .int) hd
end
end

section
variable {T : Tx} {X : Cx} {Xw : WX} {pos : Pos}
def mNeg (f : M W) : M W := bindM f fun w => fun S => match w with
  | .fr (.int i) => some (.ok (.fr (.int (-i))), S)
  | _ => none
theorem pv_neg {a : Expr} {f : M W} (h : PV T X Xw a f) : PV T X Xw (.UnaryOp .USub a pos) (mNeg f) :=
  peImp (pe_un un_neg h) fun σ H Q h => by
    obtain ⟨B, F, R⟩ := h.start
    refine (R.step (k1 := kW)).mono fun v H1 ⟨w, _, S, B1, F1, o, S', st, c, e, wn⟩ => ?_
    have st : Sta (gx X T) σ H1 S [(v, w)] B1 F1 := by simpa [kW] using st
    dsimp only at e
    split at e
    · cases e
      obtain ⟨F2, s2, c2⟩ := Sta.drop2 st
      exact ⟨_, (st.held (List.mem_cons_self ..)).int, wn _ H1 B1 F2 trivial (s2.old .int) (c.trans c2)⟩
    · cases e
end

def rvLt : W → W → Option W := cmpI fun i j => decide (i < j)
theorem op2Lt {G : Gx} : Op2 G (rI0 fun i j => .bl (decide (i < j))) rvLt := op2I0 fun _ _ _ => .bl
def rvTup : List W → Option W := fun ws => (frL ws).bind fun ds => if ds.length ≤ sizeLine then some (.fr (.tup ds)) else none
theorem units1 {k : Nat} {A : Around} (r : Room k A) : A.units + 65 < cLine := by have := r.un; omega
theorem units2 {k : Nat} {A : Around} (r : Room k A) : A.units + 1 < cLine := by have := r.un; omega
end VD

set_option Elab.async false
set_option linter.all false
set_option maxRecDepth 100000
set_option maxHeartbeats 2000000
namespace VD
open PySem PySem.Spec PyProof.Rows L2

/-! ### a law -/
theorem walk_ofV {l : PySem.W.OpenLaw} {n k : Nat} {q : Program} {loose : List Str} {XP : (Str → Option Value) → Heap → Prop} {YP : World → Heap → Prop} {d : DefRec} {x : Str}
    (hn : l.most = some n) (hn2 : n ≤ sizeLine) (hdf : d.params.defaults = []) (hr : Room k callerA)
    (F : ∀ (w : World) (mg : Str → Option Value) (fa : Addr) (h : Heap), YP w h → h.Ns mainGlobals mg → mg d.name = some (.ref fa) →
      ∃ (K : PySem.W.Frag) (fd : FuncData) (sp : Sp), K.In h ∧ (∀ (s : Shared) (u : Value), BindsTo s fd ⟨[u], []⟩ [(x, u)]) ∧
        (∀ (H : Hp) (a : Addr) (ns : List Int), ns.length ≤ n → L2.Only H → SqL K H a (ns.map V.int) → sp [.ref a] H (fun v _ => v = .bl true) fun _ _ _ => False) ∧
        ∀ base : Heap, K.In base → base.Ns mainGlobals mg → FnOk l.prog w K mg base (L2N.CX l.prog w) k fa fd [x] sp) :
    PySem.W.WalkO q loose XP YP l.row.toRowW d [] (fun f vs => PySem.call f vs) := by
  refine Att.attach_call hn hdf fun w s₀ s₁ mg mb fa o pm cd doc a vs ns G Y ho hd hcd hmg hobj hints hlen hg => ?_
  obtain ⟨K, fd, sp, KX, hb, hsp, hF⟩ := F w mg fa _ Y G.T.g hmg
  exact law_call KX G.T.g G.T.b G.T.builtins G.T.nolimit hg hobj hints (Nat.le_trans hlen hn2) hr hF hb (fun H hO hS => hsp H a ns hlen hO hS) fun H e s' ⟨_, _, _, _, _, _, _, _, _, _, _, _, z⟩ => z
/-- the script's reading -/
theorem sp_law {K : PySem.W.Frag} {mg : Str → Option Value} {F : Fn} {H : Hp} {a : Addr} {ns : List Int} (hS : SqL K H a (ns.map V.int)) (h : ∃ ws, F [.fr (.scr ns)] = some (.ok (.fr (.bl true)), ws)) : spV ⟨K, mg, tx0⟩ F [.ref a] H (fun v _ => v = .bl true) fun _ _ _ => False := by
  obtain ⟨ws, e⟩ := h
  have ⟨B, sb, hB⟩ : ∃ B : Hp, Sub B H ∧ SqL K B a (ns.map V.int) := by
    rcases hS with h | h
    · refine ⟨fun b => if b = a then H a else none, ⟨fun b o e => ?_, fun b ps e => ?_⟩, ?_⟩
      · by_cases z : b = a
        · subst z; simp at e; exact .inl e
        · simp [z] at e
      · by_cases z : b = a
        · subst z
          simp at e
          rcases h with h | ⟨ob, h⟩ <;> rw [h] at e <;> cases e
        · simp [z] at e
      · rcases h with h | ⟨ob, h⟩
        · exact .inl (.inl (by simp [h]))
        · exact .inl (.inr ⟨ob, by simp [h]⟩)
    · exact ⟨fun _ => none, ⟨(fun _ _ e => nomatch e), (fun _ _ e => nomatch e)⟩, .inr h⟩
  have st : Sta ⟨K, mg, tx0⟩ [] H [] [(.ref a, .fr (.scr ns))] B [] := ⟨sb, (fun p hp => nomatch (show p ∈ ([] : List (Addr × Str)) from hp)), ⟨[], [], .nil, .cons (.fr (.scr hB)) .nil, .refl _⟩, List.nodup_nil, (fun _ h => nomatch h)⟩
  refine ⟨[.fr (.scr ns)], B, [], _, ws, rfl, st, e, fun v H' B' F' st' _ => ?_⟩
  exact (st'.held (List.mem_cons_self ..)).bl
end VD

set_option Elab.async false
set_option linter.all false
set_option maxRecDepth 100000
set_option maxHeartbeats 4000000
set_option exponentiation.threshold 500
namespace VD
open PySem PySem.Spec PyProof.Rows L2

/-! ### the mirror's steps -/
def Rn {α : Type} (f : M α) (S : Sl) (a : α) (S' : Sl) : Prop := f S = some (.ok a, S')
def RnS (f : MS) (S : Sl) (a : Flo) (S' : Sl) : Prop := f S = some (a, S')
section
variable {α β : Type} {S S1 S2 S3 : Sl} {i : Nat} {w x y : W} {a b : Opd}
theorem ev_bind {f : M α} {k : α → M β} {u : α} {v : β} (h : Rn f S u S1) (q : Rn (k u) S1 v S2) : Rn (bindM f k) S v S2 := by
  unfold Rn bindM at *; rw [h]; exact q
theorem rns_bind {f : M α} {k : α → MS} {u : α} {v : Flo} (h : Rn f S u S1) (q : RnS (k u) S1 v S2) : RnS (bindS f k) S v S2 := by
  unfold Rn RnS bindS at *; rw [h]; exact q
theorem ev_pure {u : α} : Rn (pureM u) S u S := rfl
theorem ev_slot (h : (S[i]?).join = some w) : Rn (mSlot i) S (.at i) S := by unfold Rn mSlot; rw [h]
theorem ev_var (h : (S[i]?).join = some w) : Rn (mVar i) S (.fr w.toD) (S.set i (some (.fr w.toD))) := by unfold Rn mVar; rw [h]
theorem ev_varS {d : D} (h : (S[i]?).join = some (.fr d)) : Rn (mVar i) S (.fr d) S := by
  have e : S.set i (some (.fr d)) = S := by
    have := set_self S i
    rw [h] at this
    exact this
  have q := ev_var (S := S) (i := i) h
  rw [show W.toD (.fr d) = d from rfl, e] at q
  exact q
theorem ev_tmp {f : M W} (h : Rn f S w S1) : Rn (mTmp f) S (.tmp w) S1 := ev_bind h ev_pure
theorem ev_op2 {rv : W → W → Option W} {f g : M Opd} (h : Rn f S a S1) (q : Rn g S1 b S2) (ha : a.get S2 = some x) (hb : b.get S2 = some y) (hr : rv x y = some w) : Rn (mOp2 rv f g) S w S2 := by
  unfold mOp2
  refine ev_bind h (ev_bind q ?_)
  unfold Rn
  dsimp only
  rw [ha, hb]
  show (rv x y).map _ = _
  rw [hr]; rfl
theorem ev_op1 {rv : W → Option W} {f : M Opd} (h : Rn f S a S1) (ha : a.get S1 = some x) (hr : rv x = some w) : Rn (mOp1 rv f) S w S1 := by
  unfold mOp1
  refine ev_bind h ?_
  unfold Rn
  dsimp only
  rw [ha]
  show (rv x).map _ = _
  rw [hr]; rfl
theorem ev_nil : Rn mNil S [] S := rfl
theorem ev_cons {f : M Opd} {g : M (List Opd)} {os : List Opd} (h : Rn f S a S1) (q : Rn g S1 os S2) : Rn (mCons f g) S (a :: os) S2 := ev_bind h (ev_bind q ev_pure)
theorem ev_call {rv : List W → Option W} {f : M (List Opd)} {os : List Opd} {ws : List W} (h : Rn f S os S1) (ha : getL S1 os = some ws) (hr : rv ws = some w) : Rn (mCall rv f) S w S1 := by
  unfold mCall
  refine ev_bind h ?_
  unfold Rn
  dsimp only
  rw [ha]
  show (rv ws).map _ = _
  rw [hr]; rfl
theorem size100 {n : Nat} (h : n ≤ 100) : n ≤ sizeLine := by rw [sizeLine_eq]; omega
theorem ev_wrap {mk : List W → W} {f : M (List Opd)} {os : List Opd} {ws : List W} (h : Rn f S os S1) (t : tmpL os = some ws) (hl : ws.length ≤ sizeLine) : Rn (mWrap mk f) S (mk ws) S1 := by
  unfold mWrap
  refine ev_bind h ?_
  unfold Rn
  dsimp only
  rw [t]
  dsimp only
  rw [if_pos hl]
theorem ev_set {f : M W} (h : Rn f S w S1) : Rn (mSet f) S (.fr w.toD) S1 := ev_bind h ev_pure
theorem ev_test {f : M W} {c : Bool} (h : Rn f S (.fr (.bl c)) S1) : Rn (mTest f) S c S1 := ev_bind h rfl
theorem ev_callF {F : Fn} {f : M (List Opd)} {os : List Opd} {ws ws' : List W} (h : Rn f S os S1) (t : takeL os S1 = some (ws, S2)) (e : F ws = some (.ok w, ws')) (g : giveL os ws' S2 = some S3) : Rn (mCallF F f) S w S3 := by
  unfold mCallF
  refine ev_bind h ?_
  unfold Rn
  dsimp only
  rw [t]
  dsimp only
  rw [e]
  dsimp only
  rw [g]; rfl
theorem rns_seq {f g : MS} {v : Flo} (h : RnS f S .nx S1) (q : RnS g S1 v S2) : RnS (mSeq f g) S v S2 := by
  unfold RnS mSeq at *; rw [h]; exact q
theorem rns_ret {f : M W} (h : Rn f S w S1) : RnS (mRet f) S (.rt w) S1 := rns_bind h rfl
theorem rns_rt {f g : MS} (h : RnS f S (.rt w) S1) : RnS (mSeq f g) S (.rt w) S1 := by
  unfold RnS mSeq at *; rw [h]
theorem rns_asg {f : M W} (h : Rn f S w S1) (hl : i < S1.length) : RnS (mAsg i f) S .nx (S1.set i (some w)) := rns_bind h (by show (if _ then _ else _) = _; rw [if_pos hl])
theorem rns_asgS {f : M W} (h : Rn f S w S1) (hl : i < S1.length) : RnS (mAsgS i f) S .nx (S1.set i (some (.fr w.toD))) := rns_bind h (by show (if _ then _ else _) = _; rw [if_pos hl])
theorem rns_if {c : M Bool} {f g : MS} {t : Bool} {v : Flo} (h : Rn c S t S1) (ht : t = true → RnS f S1 v S2) (hf : t = false → RnS g S1 v S2) : RnS (mIfS c f g) S v S2 := by
  refine rns_bind h ?_
  cases t with
  | true => exact ht rfl
  | false => exact hf rfl
theorem rns_setI {f g : M W} {d : D} {u : W} (h : Rn f S (.fr d) S1) (hh : hasL i S1 = true) (q : Rn g S1 u S2) (e : setI i d u S2 = some (.nx, S3)) : RnS (mSetI i f g) S .nx S3 := by
  refine rns_bind h ?_
  show (if hasL i S1 = true then bindS g (setI i d) S1 else none) = _
  rw [if_pos hh]
  exact rns_bind q e
theorem rvAdd_i {i j : Int} : rvAdd (.fr (.int i)) (.fr (.int j)) = some (.fr (.int (i + j))) := rfl
theorem rvMul_i {i j : Int} (h : okMul i j = true) : rvMul (.fr (.int i)) (.fr (.int j)) = some (.fr (.int (i * j))) := by
  have e : intO okMul (fun i j => .int (i * j)) (.fr (.int i)) (.fr (.int j)) = some (.fr (.int (i * j))) := by show (if okMul i j = true then _ else _) = _; rw [if_pos h]
  unfold rvMul orO; rw [e]
theorem rvMod_i {i j : Int} (h : 0 < j) : rvMod (.fr (.int i)) (.fr (.int j)) = some (.fr (.int (i % j))) := by show (if decide (0 < j) = true then _ else _) = _; rw [if_pos (decide_eq_true h)]
theorem rvDiv_i {i j : Int} (h : 0 < j) (k : ok400 j = true) : rvDiv (.fr (.int i)) (.fr (.int j)) = some (.fr (.int (i / j))) := by show (if (decide (0 < j) && ok400 j) = true then _ else _) = _; rw [if_pos (by rw [decide_eq_true h, k]; rfl)]
theorem RnS.to {m : MS} {v : Flo} (h : RnS m S v S1) (e : S1 = S2) : RnS m S v S2 := e ▸ h
theorem RnS.to' {m : MS} {v v' : Flo} (h : RnS m S v S1) (ev : v = v') (e : S1 = S2) : RnS m S v' S2 := ev ▸ e ▸ h
theorem Rn.to' {m : M α} {v v' : α} (h : Rn m S v S1) (ev : v = v') (e : S1 = S2) : Rn m S v' S2 := ev ▸ e ▸ h
theorem Rn.to {m : M α} {v : α} (h : Rn m S v S1) (e : S1 = S2) : Rn m S v S2 := e ▸ h
/-- a function's whole -/
theorem mkF_ev {N n : Nat} {m : MS} {ws ws' : List W} (hn : ws.length = n) (h : RnS m (ws.map some ++ List.replicate (N - n) none) (.rt w) S) (b : backs n S = some ws') : mkF N n m ws = some (.ok w, ws') := by
  unfold mkF
  unfold RnS at h
  rw [if_pos hn, h]
  show (backs n S).map _ = _
  rw [b]; rfl
theorem mkF_nx {N n : Nat} {m : MS} {ws ws' : List W} (hn : ws.length = n) (h : RnS m (ws.map some ++ List.replicate (N - n) none) .nx S) (b : backs n S = some ws') : mkF N n m ws = some (.ok (.fr .non), ws') := by
  unfold mkF
  unfold RnS at h
  rw [if_pos hn, h]
  show (backs n S).map _ = _
  rw [b]; rfl
end
local macro_rules
  | `(tactic| trivial) => `(tactic| ((try first | apply RnS.to' | apply Rn.to'); repeat' (first
    | assumption
    | exact ev_pure
    | exact ev_nil
    | apply ev_slot
    | apply ev_var
    | apply ev_tmp
    | apply ev_op2
    | apply ev_op1
    | apply ev_cons
    | apply ev_call
    | apply ev_set
    | apply ev_wrap
    | exact size100 (Nat.le_of_ble_eq_true rfl)
    | apply ev_test
    | apply rns_seq
    | apply rns_ret
    | apply rns_asgS
    | apply rns_asg
    | exact rvMul_i (by assumption)
    | exact rvMod_i (by first | assumption | decide)
    | exact rvDiv_i (by first | assumption | decide) (by first | assumption | decide)
    | apply rns_setI
    | apply ev_callF
    | rfl
    | exact Nat.le_of_ble_eq_true rfl)))
def m_cell : MS := mSeq (mIfS (mTest (mOp2 rvEq (mSlot 0) (mTmp (mWrap .lst (mNil))))) (mRet (mSet (mOp2 rvMul (mSlot 1) (mTmp (pureM (.fr (.int 7919))))))) (mNext))
    (mRet (mSet (mOp2 rvAdd (mTmp (mOp2 rvIx (mSlot 0) (mTmp (mOp2 rvMod (mSlot 1) (mTmp (mCall rvLenS (mCons (mSlot 0) (mNil)))))))) (mTmp (mOp2 rvMul (mTmp (mOp2 rvDiv (mSlot 1) (mTmp (mCall rvLenS (mCons (mSlot 0) (mNil)))))) (mTmp (pureM (.fr (.int 104729)))))))))
def F_cell : Fn := mkF 2 2 m_cell
def m_drawn : MS := mSeq (mAsgS 2 (mOp2 rvMod (mTmp (mOp2 rvAdd (mTmp (mOp2 rvMul (mSlot 0) (mTmp (pureM (.fr (.int 6364136223846793005)))))) (mTmp (mOp2 rvMul (mTmp (mOp2 rvAdd (mSlot 1) (mTmp (pureM (.fr (.int 1)))))) (mTmp (pureM (.fr (.int 1442695040888963407)))))))) (mTmp (pureM (.fr (.int 340282366920938463463374607431768211507))))))
    (mSeq (mAsgS 2 (mOp2 rvMod (mTmp (mOp2 rvMul (mSlot 2) (mSlot 2))) (mTmp (pureM (.fr (.int 340282366920938463463374607431768211297))))))
    (mSeq (mAsgS 2 (mOp2 rvMul (mTmp (mOp2 rvMul (mTmp (mOp2 rvAdd (mTmp (mOp2 rvMod (mSlot 2) (mTmp (pureM (.fr (.int 18446744073709551557)))))) (mTmp (pureM (.fr (.int 1)))))) (mTmp (mOp2 rvAdd (mTmp (mOp2 rvDiv (mSlot 2) (mTmp (pureM (.fr (.int 18446744073709551557)))))) (mTmp (pureM (.fr (.int 1)))))))) (mSlot 2)))
    (mRet (mSet (mOp2 rvMod (mSlot 2) (mTmp (pureM (.fr (.int 340282366920938463463374607431768211507)))))))))
def F_drawn : Fn := mkF 3 2 m_drawn
def m_roll : MS := mSeq (mIfS (mTest (mOp2 rvGe (mTmp (mOp2 rvIx (mSlot 0) (mTmp (pureM (.fr (.int 0)))))) (mTmp (mOp2 rvPow (mTmp (pureM (.fr (.int 10)))) (mTmp (pureM (.fr (.int 18)))))))) (mSeq (mAsgS 2 (mOp2 rvMod (mTmp (mOp2 rvIx (mSlot 0) (mTmp (pureM (.fr (.int 0)))))) (mSlot 1)))
    (mSeq (mSetI 0 (mSet (mOp2 rvDiv (mTmp (mOp2 rvIx (mSlot 0) (mTmp (pureM (.fr (.int 0)))))) (mSlot 1))) (pureM (.fr (.int 0))))
    (mRet (mVar 2)))) (mNext))
    (mSeq (mSetI 0 (mSet (mOp2 rvAdd (mTmp (mOp2 rvIx (mSlot 0) (mTmp (pureM (.fr (.int 1)))))) (mTmp (pureM (.fr (.int 1)))))) (pureM (.fr (.int 1))))
    (mRet (mSet (mOp2 rvMod (mTmp (mOp2 rvDiv (mTmp (mCallF F_drawn (mCons (mTmp (mOp2 rvIx (mSlot 0) (mTmp (pureM (.fr (.int 0)))))) (mCons (mTmp (mOp2 rvIx (mSlot 0) (mTmp (pureM (.fr (.int 1)))))) (mNil))))) (mTmp (pureM (.fr (.int 8)))))) (mSlot 1)))))
def F_roll : Fn := mkF 3 2 m_roll
def m_rounds : MS := mRet (mComp [2] (mRange (mCons (mTmp (mCall rvMax2 (mCons (mTmp (pureM (.fr (.int 1)))) (mCons (mTmp (mCall rvMin2 (mCons (mSlot 1) (mCons (mTmp (mCall rvLenS (mCons (mSlot 0) (mNil)))) (mNil))))) (mNil))))) (mNil))) (bName 2) (pureM true) (mWrap .lst (mCons (mTmp (mCallF F_cell (mCons (mTmp (mVar 0)) (mCons (mTmp (mVar 2)) (mNil))))) (mCons (mTmp (pureM (.fr (.int 0)))) (mNil)))))
def F_rounds : Fn := mkF 3 2 m_rounds

theorem okMul_r {i j : Int} (h1 : -(2 ^ 64) < j) (h2 : j < 2 ^ 64) : okMul i j = true := by
  unfold okMul ok64
  rw [decide_eq_true h1, decide_eq_true h2]
  simp
theorem okMul_w {i j : Int} (h1 : i.natAbs < 2 ^ 400) (h2 : j.natAbs < 2 ^ 400) : okMul i j = true := by
  unfold okMul ok400
  simp [h1, h2]
def p1 : Int := 340282366920938463463374607431768211507
def p2 : Int := 340282366920938463463374607431768211297
def p3 : Int := 18446744073709551557
def drawn1 (x y : Int) : Int := (x * 6364136223846793005 + (y + 1) * 1442695040888963407) % p1
def drawn2 (m : Int) : Int := m * m % p2
def drawn3 (m : Int) : Int := (m % p3 + 1) * (m / p3 + 1) * m
theorem natAbs_le {i : Int} (n : Nat) (h1 : 0 ≤ i) (h2 : i ≤ n) : i.natAbs ≤ n := by omega
theorem natAbs_400 {i : Int} (n : Nat) (h1 : 0 ≤ i) (h2 : i ≤ n) (h : n < 2 ^ 400) : i.natAbs < 2 ^ 400 := Nat.lt_of_le_of_lt (natAbs_le n h1 h2) h
theorem drawn_ok (x y : Int) : F_drawn [.fr (.int x), .fr (.int y)] = some (.ok (.fr (.int (drawn3 (drawn2 (drawn1 x y)) % p1))), [.fr (.int x), .fr (.int y)]) := by
  have e1 : okMul x 6364136223846793005 = true := okMul_r (by decide) (by decide)
  have e2 : okMul (y + 1) 1442695040888963407 = true := okMul_r (by decide) (by decide)
  have b1 : 0 ≤ drawn1 x y ∧ drawn1 x y < p1 := ⟨Int.emod_nonneg _ (by decide), Int.emod_lt_of_pos _ (by decide)⟩
  have e3 : okMul (drawn1 x y) (drawn1 x y) = true := okMul_w (natAbs_400 _ b1.1 (Int.le_of_lt b1.2) (by decide)) (natAbs_400 _ b1.1 (Int.le_of_lt b1.2) (by decide))
  generalize hm : drawn2 (drawn1 x y) = m
  have b2 : 0 ≤ m ∧ m < p2 := by rw [← hm]; exact ⟨Int.emod_nonneg _ (by decide), Int.emod_lt_of_pos _ (by decide)⟩
  have b3 : 0 ≤ m % p3 + 1 ∧ m % p3 + 1 ≤ p3 := by
    have h1 := Int.emod_nonneg m (show p3 ≠ 0 by decide)
    have h2 := Int.emod_lt_of_pos m (show 0 < p3 by decide)
    omega
  have b4 : 0 ≤ m / p3 + 1 ∧ m / p3 + 1 ≤ 2 ^ 65 := by
    have h1 : 0 ≤ m / p3 := Int.ediv_nonneg b2.1 (by decide)
    have h2 : m / p3 < 2 ^ 65 := Int.ediv_lt_of_lt_mul (by decide) (Int.lt_of_lt_of_le b2.2 (by decide))
    omega
  have e4 : okMul (m % p3 + 1) (m / p3 + 1) = true := okMul_w (natAbs_400 _ b3.1 b3.2 (by decide)) (natAbs_400 (2 ^ 65) b4.1 b4.2 (by decide))
  have e5 : okMul ((m % p3 + 1) * (m / p3 + 1)) m = true := by
    refine okMul_w ?_ (natAbs_400 _ b2.1 (Int.le_of_lt b2.2) (by decide))
    rw [Int.natAbs_mul]
    exact Nat.lt_of_le_of_lt (Nat.mul_le_mul (natAbs_le _ b3.1 b3.2) (natAbs_le (2 ^ 65) b4.1 b4.2)) (by decide)
  refine mkF_ev (S := [some (.fr (.int x)), some (.fr (.int y)), some (.fr (.int (drawn3 m)))]) rfl ?_ rfl
  unfold m_drawn
  show RnS _ [some (.fr (.int x)), some (.fr (.int y)), none] _ _
  refine rns_seq (S1 := [some (.fr (.int x)), some (.fr (.int y)), some (.fr (.int (drawn1 x y)))]) ?_ (rns_seq (S1 := [some (.fr (.int x)), some (.fr (.int y)), some (.fr (.int m))]) ?_ (rns_seq (S1 := [some (.fr (.int x)), some (.fr (.int y)), some (.fr (.int (drawn3 m)))]) ?_ (RnS.to' ?_ rfl rfl)))
  · trivial
  · subst hm
    trivial
  · trivial
  rotate_left
  · trivial
/-- what a roll tells -/
def rollV (x y n : Int) : Int := if 1000000000000000000 ≤ x then x % n else drawn3 (drawn2 (drawn1 x (y + 1))) % p1 / 8 % n
def rollX (x n : Int) : Int := if 1000000000000000000 ≤ x then x / n else x
def rollY (x y : Int) : Int := if 1000000000000000000 ≤ x then y else y + 1
theorem roll_ok (x y n : Int) (hn : 0 < n) (h4 : ok400 n = true) : F_roll [.lst [.fr (.int x), .fr (.int y)], .fr (.int n)] = some (.ok (.fr (.int (rollV x y n))), [.lst [.fr (.int (rollX x n)), .fr (.int (rollY x y))], .fr (.int n)]) := by
  have ht : Rn (mTest (mOp2 rvGe (mTmp (mOp2 rvIx (mSlot 0) (mTmp (pureM (.fr (.int 0)))))) (mTmp (mOp2 rvPow (mTmp (pureM (.fr (.int 10)))) (mTmp (pureM (.fr (.int 18)))))))) [some (.lst [.fr (.int x), .fr (.int y)]), some (.fr (.int n)), none] (decide ((1000000000000000000 : Int) ≤ x)) [some (.lst [.fr (.int x), .fr (.int y)]), some (.fr (.int n)), none] := by
    trivial
  by_cases hx : (1000000000000000000 : Int) ≤ x
  · unfold rollV rollX rollY
    rw [if_pos hx, if_pos hx, if_pos hx]
    refine mkF_ev (S := [some (.lst [.fr (.int (x / n)), .fr (.int y)]), some (.fr (.int n)), some (.fr (.int (x % n)))]) rfl ?_ rfl
    show RnS _ [some (.lst [.fr (.int x), .fr (.int y)]), some (.fr (.int n)), none] _ _
    refine rns_rt (rns_if ht (fun _ => ?_) fun h => absurd hx (of_decide_eq_false h))
    trivial
  · unfold rollV rollX rollY
    rw [if_neg hx, if_neg hx, if_neg hx]
    refine mkF_ev (S := [some (.lst [.fr (.int x), .fr (.int (y + 1))]), some (.fr (.int n)), none]) rfl ?_ rfl
    show RnS _ [some (.lst [.fr (.int x), .fr (.int y)]), some (.fr (.int n)), none] _ _
    have hd := drawn_ok x (y + 1)
    refine rns_seq (S1 := [some (.lst [.fr (.int x), .fr (.int y)]), some (.fr (.int n)), none]) (rns_if ht (fun h => absurd (of_decide_eq_true h) hx) fun _ => rfl) ?_
    refine rns_seq (S1 := [some (.lst [.fr (.int x), .fr (.int (y + 1))]), some (.fr (.int n)), none]) ?_ ?_
    · trivial
    · trivial

theorem rollV_lt {x y n : Int} (hn : 0 < n) : 0 ≤ rollV x y n ∧ rollV x y n < n := by
  unfold rollV
  split
  · exact ⟨Int.emod_nonneg _ (by omega), Int.emod_lt_of_pos _ hn⟩
  · exact ⟨Int.emod_nonneg _ (by omega), Int.emod_lt_of_pos _ hn⟩
/-! ### data that == tells apart -/
def D.ok (n : Nat) (d : D) : Prop := ∃ p, d.py = some p ∧ p.canLay0 = true ∧ p.depth ≤ n
theorem ok_int {i : Int} {n : Nat} : D.ok n (.int i) := ⟨_, rfl, rfl, Nat.zero_le _⟩
theorem pyL_ok {n : Nat} : ∀ {ds : List D}, (∀ d ∈ ds, D.ok n d) → ∃ ps, pyL ds = some ps ∧ PyData.canLayAll0 ps = true ∧ PyData.depthAll ps ≤ n
  | [], _ => ⟨[], by simp [pyL], rfl, Nat.zero_le _⟩
  | d :: ds, h => by
    obtain ⟨p, e1, c1, d1⟩ := h d (List.mem_cons_self ..)
    obtain ⟨ps, e2, c2, d2⟩ := pyL_ok fun x hx => h x (List.mem_cons_of_mem _ hx)
    refine ⟨p :: ps, by simp [pyL, e1, e2], by simp [PyData.canLayAll0, c1, c2], ?_⟩
    show max p.depth (PyData.depthAll ps) ≤ n
    omega
theorem ok_lst {n : Nat} {ds : List D} (h : ∀ d ∈ ds, D.ok n d) : D.ok (n + 1) (.lst ds) := by
  obtain ⟨ps, e, c, d⟩ := pyL_ok h
  exact ⟨.list ps, by simp [D.py, e], c, Nat.succ_le_succ d⟩
theorem ok_tup {n : Nat} {ds : List D} (h : ∀ d ∈ ds, D.ok n d) : D.ok (n + 1) (.tup ds) := by
  obtain ⟨ps, e, c, d⟩ := pyL_ok h
  exact ⟨.tuple ps, by simp [D.py, e], c, Nat.succ_le_succ d⟩
theorem ok_str {s : Str} {n : Nat} (h : PyData.strOk s = true) : D.ok n (.str s) := ⟨_, rfl, h, Nat.zero_le _⟩
theorem ints_ok : ∀ ns : List Int, PyData.canLayAll0 (ns.map .int) = true ∧ PyData.depthAll (ns.map .int) = 0
  | [] => ⟨rfl, rfl⟩
  | n :: ns => by
    obtain ⟨h1, h2⟩ := ints_ok ns
    refine ⟨by simp [PyData.canLayAll0, PyData.canLay0, h1], ?_⟩
    show max 0 (PyData.depthAll (ns.map .int)) = 0
    rw [h2]; rfl
theorem eqD_self {d : D} {n : Nat} (h : D.ok n d) (hn : n ≤ 64) : eqD d d = some true := by
  obtain ⟨p, e, c, dp⟩ := h
  have hs : SeqAt.shaped p = true := by
    unfold SeqAt.shaped
    rw [c, decide_eq_true (Nat.le_trans dp hn)]; rfl
  unfold eqD
  rw [e]
  dsimp only
  rw [hs]
  simp only [Bool.and_self, if_true, Option.some.injEq]
  exact SeqAt.eqv_refl p c
theorem eqD_scr {ns : List Int} : eqD (.scr ns) (.lst []) = some ns.isEmpty := by
  have e1 : D.py (.scr ns) = some (.list (ns.map .int)) := rfl
  have e2 : D.py (.lst []) = some (.list []) := rfl
  obtain ⟨h1, h2⟩ := ints_ok ns
  have s1 : SeqAt.shaped (.list (ns.map .int)) = true := by
    unfold SeqAt.shaped
    have : PyData.depth (.list (ns.map .int)) = 1 := by show PyData.depthAll _ + 1 = 1; rw [h2]
    rw [this, show PyData.canLay0 (.list (ns.map .int)) = true from h1]; rfl
  unfold eqD
  rw [e1, e2]
  dsimp only
  rw [s1]
  have s2 : SeqAt.shaped (.list []) = true := by decide
  rw [s2]
  cases ns <;> rfl
/-! ### cells, rounds -/
theorem atI_mod {α : Type} {xs : List α} {k : Int} (h : xs ≠ []) : ∃ d, L2.atI xs (k % xs.length) = some d ∧ d ∈ xs := by
  have hl : 0 < (xs.length : Int) := by
    have := List.length_pos_iff.mpr h
    omega
  have h1 := Int.emod_nonneg k (show (xs.length : Int) ≠ 0 by omega)
  have h2 := Int.emod_lt_of_pos k hl
  have hlt : (k % (xs.length : Int)).toNat < xs.length := by omega
  refine ⟨xs[(k % (xs.length : Int)).toNat], ?_, List.getElem_mem hlt⟩
  unfold L2.atI L2.ixN
  rw [if_pos h1, if_pos h2]
  show xs[_]? = _
  exact List.getElem?_eq_getElem hlt
/-- a list comprehension, by what stands at each turn -/
theorem compL_inv {own : List Nat} {b : Tgt} {c : M Bool} {f : M W} (I : Sl → Prop) (R : D → W → Prop) : ∀ {ds : List D} {S : Sl}, I S →
    (∀ d ∈ ds, ∀ S, I S → ∃ S1 S2 S3 w, b d S = some S1 ∧ c S1 = some (.ok true, S2) ∧ f S2 = some (.ok w, S3) ∧ R d w ∧ I (wipeS S3 own)) →
    ∃ ws S', mCompL own b c f ds S = some (ws, S') ∧ I S' ∧ ws.length = ds.length ∧ ∀ w ∈ ws, ∃ d ∈ ds, R d w
  | [], S, h, _ => ⟨[], S, rfl, h, rfl, fun _ h => nomatch h⟩
  | d :: ds, S, h, k => by
    obtain ⟨S1, S2, S3, w, e1, e2, e3, r, h'⟩ := k d (List.mem_cons_self ..) S h
    obtain ⟨ws, S', e4, i4, l4, r4⟩ := compL_inv I R (ds := ds) h' fun d hd => k d (List.mem_cons_of_mem _ hd)
    refine ⟨w :: ws, S', ?_, i4, by simp [l4], fun x hx => ?_⟩
    · unfold mCompL
      rw [e1]; dsimp only
      rw [e2]; dsimp only
      rw [e3]; dsimp only
      rw [e4]; rfl
    · rcases List.mem_cons.mp hx with rfl | hx
      · exact ⟨d, List.mem_cons_self .., r⟩
      · obtain ⟨d', hd', r'⟩ := r4 x hx
        exact ⟨d', List.mem_cons_of_mem _ hd', r'⟩
/-- a loop, by what stands at each turn -/
theorem forL_inv {b : Tgt} {body : MS} {all : List D} (I : List D → Sl → Prop) (k : ∀ done d rest S, done ++ d :: rest = all → I done S → ∃ S1 S2, b d S = some S1 ∧ RnS body S1 .nx S2 ∧ I (done ++ [d]) S2) : ∀ {ds done : List D} {S : Sl}, done ++ ds = all → I done S →
    ∃ S', mForL b body ds S = some (.nx, S') ∧ I all S'
  | [], done, S, e, h => ⟨S, rfl, by rw [← e, List.append_nil]; exact h⟩
  | d :: ds, done, S, e, h => by
    obtain ⟨S1, S2, e1, e2, h'⟩ := k done d ds S e h
    obtain ⟨S', e3, h3⟩ := forL_inv I k (ds := ds) (by simpa using e) h'
    refine ⟨S', ?_, h3⟩
    unfold RnS at e2
    unfold mForL
    rw [e1]; dsimp only
    rw [e2]; exact e3
theorem forO_inv {i : Nat} {body : MS} (I : Sl → Prop) : ∀ {ws : List W} {S : Sl}, I S →
    (∀ w ∈ ws, ∀ S, I S → i < S.length ∧ ∃ S2, RnS body (S.set i (some w)) .nx S2 ∧ I S2) → ∃ S', mForO i body ws S = some (.nx, S') ∧ I S'
  | [], S, h, _ => ⟨S, rfl, h⟩
  | w :: ws, S, h, k => by
    obtain ⟨hl, S2, e2, h'⟩ := k w (List.mem_cons_self ..) S h
    obtain ⟨S', e3, h3⟩ := forO_inv I (ws := ws) h' fun d hd => k d (List.mem_cons_of_mem _ hd)
    refine ⟨S', ?_, h3⟩
    unfold RnS at e2
    unfold mForO
    rw [if_pos hl, e2]; exact e3
theorem cell_ok {ns : List Int} {k : Int} (h63 : ns.length ≤ 63) : ∃ v, F_cell [.fr (.scr ns), .fr (.int k)] = some (.ok (.fr (.int v)), [.fr (.scr ns), .fr (.int k)]) := by
  have ht : Rn (mTest (mOp2 rvEq (mSlot 0) (mTmp (mWrap .lst (mNil))))) [some (.fr (.scr ns)), some (.fr (.int k))] ns.isEmpty [some (.fr (.scr ns)), some (.fr (.int k))] := by
    refine ev_test (ev_op2 (x := .fr (.scr ns)) (y := .lst []) (ev_slot rfl) (ev_tmp (w := .lst []) (S1 := [some (.fr (.scr ns)), some (.fr (.int k))]) ?_) rfl rfl ?_)
    · show (if ([] : List W).length ≤ sizeLine then some (Res.ok (W.lst []), _) else none) = _
      rw [if_pos (show ([] : List W).length ≤ sizeLine from Nat.zero_le _)]
    · unfold rvEq
      rw [show W.toD (.lst []) = .lst [] from rfl, show W.toD (.fr (.scr ns)) = .scr ns from rfl, eqD_scr]; rfl
  cases ns with
  | nil =>
    have e1 : okMul k 7919 = true := okMul_r (by decide) (by decide)
    refine ⟨k * 7919, mkF_ev (S := [some (.fr (.scr [])), some (.fr (.int k))]) rfl ?_ rfl⟩
    show RnS _ [some (.fr (.scr [])), some (.fr (.int k))] _ _
    refine rns_rt (rns_if ht (fun _ => ?_) fun h => nomatch h)
    trivial
  | cons n ns =>
    generalize hL : ((n :: ns).map VD.D.int).length = L
    have hL2 : L = ns.length + 1 := by rw [← hL]; simp
    obtain ⟨d, e, hm⟩ := atI_mod (xs := (n :: ns).map VD.D.int) (k := k) (by simp)
    obtain ⟨v, _, rfl⟩ := List.mem_map.mp hm
    rw [hL] at e
    have hl : (0 : Int) < (L : Nat) := by omega
    have h4 : ok400 (L : Nat) = true := decide_eq_true (natAbs_400 63 (by omega) (by simp at h63; omega) (by decide))
    have e1 : okMul (k / (L : Nat)) 104729 = true := okMul_r (by decide) (by decide)
    have hlen : rvLenS [.fr (.scr (n :: ns))] = some (.fr (.int (L : Nat))) := by rw [← hL]; rfl
    have hi : rvIx (.fr (.scr (n :: ns))) (.fr (.int (k % (L : Nat)))) = some (.fr (.int v)) := by
      have q : ixL (.fr (.scr (n :: ns))) (.fr (.int (k % (L : Nat)))) = some (.fr (.int v)) := by
        show (L2.atI ((n :: ns).map VD.D.int) _).map W.fr = _
        rw [e]; rfl
      unfold rvIx orO
      rw [q]
    refine ⟨v + k / (L : Nat) * 104729, mkF_ev (S := [some (.fr (.scr (n :: ns))), some (.fr (.int k))]) rfl ?_ rfl⟩
    show RnS _ [some (.fr (.scr (n :: ns))), some (.fr (.int k))] _ _
    refine rns_seq (rns_if ht (fun h => nomatch h) fun _ => rfl) ?_
    trivial

structure IsDice (w : W) : Prop where
  ex : ∃ x y, w = .lst [.fr (.int x), .fr (.int y)]
theorem rounds_ok {ns : List Int} {most : Int} (h63 : ns.length ≤ 63) (h0 : 0 ≤ most) (h1 : most ≤ 63) : ∃ ws, F_rounds [.fr (.scr ns), .fr (.int most)] = some (.ok (.lst ws), [.fr (.scr ns), .fr (.int most)]) ∧ ∀ w ∈ ws, IsDice w := by
  generalize hL : (ns.map VD.D.int).length = L
  have hL2 : L = ns.length := by rw [← hL]; simp
  have hlen : rvLenS [.fr (.scr ns)] = some (.fr (.int (L : Nat))) := by rw [← hL]; rfl
  have hmin : rvMin2 [.fr (.int most), .fr (.int (L : Nat))] = some (.fr (.int (if ((L : Nat) : Int) < most then ((L : Nat) : Int) else most))) := rfl
  generalize hm : (if ((L : Nat) : Int) < most then ((L : Nat) : Int) else most) = m at hmin
  have hm2 : 0 ≤ m ∧ m ≤ 63 := by
    rw [← hm]
    split <;> omega
  have hmax : rvMax2 [.fr (.int 1), .fr (.int m)] = some (.fr (.int (if m > 1 then m else 1))) := rfl
  generalize hk : (if m > 1 then m else 1) = k at hmax
  have hk2 : 0 ≤ k ∧ k ≤ 63 := by
    rw [← hk]
    split <;> omega
  have hr : Rn (mRange (mCons (mTmp (mCall rvMax2 (mCons (mTmp (pureM (.fr (.int 1)))) (mCons (mTmp (mCall rvMin2 (mCons (mSlot 1) (mCons (mTmp (mCall rvLenS (mCons (mSlot 0) (mNil)))) (mNil))))) (mNil))))) (mNil))) [some (.fr (.scr ns)), some (.fr (.int most)), none] ((List.range k.toNat).map fun i => VD.D.int (i : Nat)) [some (.fr (.scr ns)), some (.fr (.int most)), none] := by
    unfold mRange
    refine ev_bind (u := [.tmp (.fr (.int k))]) (S1 := [some (.fr (.scr ns)), some (.fr (.int most)), none]) ?_ ?_
    · trivial
      simp only [hL, hm, hk]
    · show (if -(2 ^ 62) ≤ k ∧ k < 2 ^ 62 then some (Res.ok _, _) else none) = _
      rw [if_pos ⟨by omega, by omega⟩]
  obtain ⟨ws, S', e, i, l, r⟩ := compL_inv (own := [2]) (b := bName 2) (c := pureM true) (f := mWrap .lst (mCons (mTmp (mCallF F_cell (mCons (mTmp (mVar 0)) (mCons (mTmp (mVar 2)) (mNil))))) (mCons (mTmp (pureM (.fr (.int 0)))) (mNil))))
    (fun S => S = [some (.fr (.scr ns)), some (.fr (.int most)), none]) (fun _ w => IsDice w) (ds := (List.range k.toNat).map fun i => VD.D.int (i : Nat)) rfl (fun d hd S hS => by
      subst hS
      obtain ⟨i, _, rfl⟩ := List.mem_map.mp hd
      obtain ⟨v, hv⟩ := cell_ok (k := ((i : Nat) : Int)) h63
      refine ⟨[some (.fr (.scr ns)), some (.fr (.int most)), some (.fr (.int (i : Nat)))], _, [some (.fr (.scr ns)), some (.fr (.int most)), some (.fr (.int (i : Nat)))], .lst [.fr (.int v), .fr (.int 0)], rfl, rfl, ?_, ⟨⟨v, 0, rfl⟩⟩, rfl⟩
      show Rn _ _ _ _
      trivial)
  refine ⟨ws, mkF_ev (S := [some (.fr (.scr ns)), some (.fr (.int most)), none]) rfl (rns_ret ?_) rfl, fun w hw => ?_⟩
  · show Rn _ [some (.fr (.scr ns)), some (.fr (.int most)), none] _ _
    refine ev_bind hr ?_
    show (if _ ≤ sizeLine then _ else none) = _
    rw [if_pos (size100 (by simp; omega))]
    show (mCompL _ _ _ _ _ [some (.fr (.scr ns)), some (.fr (.int most)), none]).map _ = _
    rw [e, i]; rfl
  · obtain ⟨_, _, h⟩ := r w hw
    exact h

/-- a list comprehension that leaves the slots as they were -/
theorem compL_fm {own : List Nat} {b : Tgt} {c : M Bool} {f : M W} {g : D → Option W} {S : Sl} : ∀ {ds : List D},
    (∀ d ∈ ds, ∃ S1 S2, b d S = some S1 ∧ match g d with
      | some w => ∃ S3, Rn c S1 true S2 ∧ Rn f S2 w S3 ∧ wipeS S3 own = S
      | none => Rn c S1 false S2 ∧ wipeS S2 own = S) → mCompL own b c f ds S = some (ds.filterMap g, S)
  | [], _ => rfl
  | d :: ds, h => by
    have ih := compL_fm (ds := ds) fun d hd => h d (List.mem_cons_of_mem _ hd)
    obtain ⟨S1, S2, e1, k⟩ := h d (List.mem_cons_self ..)
    unfold mCompL
    rw [e1]; dsimp only
    cases hg : g d with
    | some w =>
      rw [hg] at k
      obtain ⟨S3, e2, e3, e4⟩ := k
      unfold Rn at e2 e3
      rw [e2]; dsimp only
      rw [e3]; dsimp only
      rw [e4, ih, List.filterMap_cons, hg]; rfl
    | none =>
      rw [hg] at k
      obtain ⟨e2, e4⟩ := k
      unfold Rn at e2
      rw [e2]; dsimp only
      rw [e4, ih, List.filterMap_cons, hg]
theorem ev_comp {own : List Nat} {fi : M (List D)} {b : Tgt} {c : M Bool} {f : M W} {S S1 S2 : Sl} {ds : List D} {ws : List W} (h : Rn fi S ds S1) (hl : ds.length ≤ sizeLine) (e : mCompL own b c f ds (wipeS S1 own) = some (ws, S2)) : Rn (mComp own fi b c f) S (.lst ws) (restS S1 S2 own) := by
  unfold mComp
  refine ev_bind h ?_
  show (if ds.length ≤ sizeLine then _ else none) = _
  rw [if_pos hl, e]; rfl
theorem ev_items {f : M W} {S S1 : Sl} {w : W} {ds : List D} (h : Rn f S w S1) (e : w.toD.items = some ds) : Rn (mItems f) S ds S1 := by
  unfold mItems
  refine ev_bind h ?_
  show (w.toD.items).map _ = _
  rw [e]; rfl
theorem rns_for {f : M (List D)} {b : Tgt} {m : MS} {S S1 S2 : Sl} {ds : List D} (h : Rn f S ds S1) (e : mForL b m ds S1 = some (.nx, S2)) : RnS (mFor f b m) S .nx S2 := rns_bind h e
theorem rns_forO {f : M W} {i : Nat} {m : MS} {S S1 S2 : Sl} {ws : List W} (h : Rn f S (.lst ws) S1) (e : mForO i m ws S1 = some (.nx, S2)) : RnS (mForOwn f i m) S .nx S2 := rns_bind h e
theorem rns_drop {f : M W} {w : W} {S S1 : Sl} (h : Rn f S w S1) : RnS (mDrop f) S .nx S1 := rns_bind h rfl
theorem ev_append {f : M W} {i : Nat} {w : W} {ws : List W} {S S1 : Sl} (hh : hasL i S = true) (h : Rn f S w S1) (e : (S1[i]?).join = some (.lst ws)) (hl : ws.length < sizeLine) : Rn (mAppend i f) S (.fr .non) (S1.set i (some (.lst (ws ++ [w])))) := by
  unfold mAppend mChk Rn
  dsimp only
  rw [if_pos hh]
  refine ev_bind h ?_
  show (match (S1[i]?).join with
    | some (.lst ws) => if ws.length < sizeLine then some (Res.ok (W.fr VD.D.non), S1.set i (some (W.lst (ws ++ [w])))) else none
    | _ => none) = _
  rw [e]
  dsimp only
  rw [if_pos hl]
theorem rvEq_ok {x y : W} {b : Bool} (e : eqD x.toD y.toD = some b) : rvEq x y = some (.fr (.bl b)) := by unfold rvEq; rw [e]; rfl
theorem rvNe_ok {x y : W} {b : Bool} (e : eqD x.toD y.toD = some b) : rvNe x y = some (.fr (.bl (!b))) := by unfold rvNe; rw [e]; rfl
theorem eqD_str {x y : Str} (hx : PyData.strOk x = true) (hy : PyData.strOk y = true) : eqD (.str x) (.str y) = some (x == y) := by
  have s1 : SeqAt.shaped (.str x) = true := by unfold SeqAt.shaped; rw [show PyData.canLay0 (.str x) = true from hx]; rfl
  have s2 : SeqAt.shaped (.str y) = true := by unfold SeqAt.shaped; rw [show PyData.canLay0 (.str y) = true from hy]; rfl
  unfold eqD
  rw [show D.py (.str x) = some (.str x) from rfl, show D.py (.str y) = some (.str y) from rfl]
  dsimp only
  rw [s1, s2]; rfl
theorem asL_new {ds : List D} : (newL ds).asL = some ds := by
  show frL (ds.map W.fr) = some ds
  induction ds with
  | nil => rfl
  | cons d ds ih => show (frL (ds.map W.fr)).map (d :: ·) = _; rw [ih]; rfl
theorem toD_new {ds : List D} : (newL ds).toD = .lst ds := by
  show VD.D.lst (toDL (ds.map W.fr)) = _
  congr 1
  induction ds with
  | nil => rfl
  | cons d ds ih => show W.toD (.fr d) :: toDL (ds.map W.fr) = _; rw [ih]; rfl
theorem rvAdd_ll {x y : W} {ds es : List D} (hx : x.asL = some ds) (hy : y.asL = some es) (hl : ds.length + es.length ≤ sizeLine) : rvAdd x y = some (newL (ds ++ es)) := by
  have e1 : intO (fun _ _ => true) (fun i j => .int (i + j)) x y = none := by
    cases x with
    | fr d => cases d <;> first | rfl | cases hx
    | _ => rfl
  have e2 : strO (fun a b => decide (a.length + b.length ≤ sizeLine)) (fun a b => .str (a ++ b)) x y = none := by
    cases x with
    | fr d => cases d <;> first | rfl | cases hx
    | _ => rfl
  have e3 : catL x y = some (newL (ds ++ es)) := by
    unfold catL
    rw [hx, hy]
    dsimp only
    rw [if_pos hl]
  unfold rvAdd orO
  rw [e1]; dsimp only
  rw [e2]; dsimp only
  rw [e3]
end VD

set_option Elab.async false
set_option linter.all false
set_option maxRecDepth 100000
set_option maxHeartbeats 2000000
namespace VD
open PySem PySem.Spec PyProof.Rows L2

/-! ### objects -/
def lookF (f : Str) : List (Str × D) → Option D
  | [] => none
  | (g, d) :: r => if g = f then some d else lookF f r
def lookW (f : Str) : List (Str × W) → Option W
  | [] => none
  | (g, d) :: r => if g = f then some d else lookW f r
/-- a field that may be told: settled -/
def W.fld (c f : Str) : W → Option W
  | .fr (.obj c' fs) => if c' = c then (lookF f fs).map .fr else none
  | .obj c' fs => if c' = c then (match lookW f fs with
    | some (.fr d) => some (.fr d)
    | _ => none) else none
  | _ => none
section
variable {G : Gx} {B H : Hp}
theorem lookup_eq {f g : Str} {v : V} {r : List (Str × V)} : ((g, v) :: r).lookup f = if g = f then some v else r.lookup f := by
  show (match f == g with
    | true => some v
    | false => r.lookup f) = _
  by_cases h : g = f
  · subst h
    rw [if_pos rfl]
    have : (g == g) = true := beq_self_eq_true g
    rw [this]
  · rw [if_neg h]
    have : (f == g) = false := by
      cases q : (f == g) with
      | false => rfl
      | true => exact absurd (eq_of_beq q).symm h
    rw [this]
theorem RepF.look (f : Str) : ∀ {fs : List (Str × D)} {vs : List (Str × V)} {d : D}, RepF G B fs vs → lookF f fs = some d → ∃ v, vs.lookup f = some v ∧ Rep G B d v
  | [], _, _, _, e => nomatch e
  | (g, d0) :: fs, (_, v0) :: vs, d, .cons h r, e => by
    replace e : (if g = f then some d0 else lookF f fs) = some d := e
    rw [lookup_eq]
    split at e
    · rename_i hg
      cases e
      rw [if_pos hg]
      exact ⟨v0, rfl, h⟩
    · rename_i hg
      rw [if_neg hg]
      exact RepF.look f r e
theorem OwnF.look (f : Str) : ∀ {fs : List (Str × W)} {vs : List (Str × V)} {F : List Addr} {d : D}, OwnF G B H fs vs F → lookW f fs = some (.fr d) → ∃ v, vs.lookup f = some v ∧ Rep G B d v
  | [], _, _, _, _, e => nomatch e
  | (g, d0) :: fs, (_, v0) :: vs, _, d, .cons h r, e => by
    replace e : (if g = f then some d0 else lookW f fs) = some (.fr d) := e
    rw [lookup_eq]
    split at e
    · rename_i hg
      cases e
      rw [if_pos hg]
      cases h with
      | fr h => exact ⟨v0, rfl, h⟩
    · rename_i hg
      rw [if_neg hg]
      exact OwnF.look f r e
theorem lookF_none (f : Str) : ∀ {fs : List (Str × D)} {vs : List (Str × V)}, RepF G B fs vs → lookF f fs = none → vs.lookup f = none
  | [], _, .nil, _ => rfl
  | (g, d0) :: fs, (_, v0) :: vs, .cons h r, e => by
    replace e : (if g = f then some d0 else lookF f fs) = none := e
    rw [lookup_eq]
    split at e
    · cases e
    · rename_i hg
      rw [if_neg hg]
      exact lookF_none f r e
theorem lookW_none (f : Str) : ∀ {fs : List (Str × W)} {vs : List (Str × V)} {F : List Addr}, OwnF G B H fs vs F → lookW f fs = none → vs.lookup f = none
  | [], _, _, .nil, _ => rfl
  | (g, d0) :: fs, (_, v0) :: vs, _, .cons h r, e => by
    replace e : (if g = f then some d0 else lookW f fs) = none := e
    rw [lookup_eq]
    split at e
    · cases e
    · rename_i hg
      rw [if_neg hg]
      exact lookW_none f r e
theorem Vw.fld {w u : W} {v : V} {c f : Str} (h : Vw G B H w v) (s : Sub B H) (e : w.fld c f = some u) : ∃ a C dx fs y d, v = .ref a ∧ G.mg c = some (.ref C) ∧ H a = some (.ins C dx fs) ∧ fs.lookup f = some y ∧ u = .fr d ∧ Rep G B d y := by
  obtain ⟨F, o⟩ := h
  cases o with
  | fr r =>
    cases r with
    | obj m h r =>
      rename_i a C dx c' fs vs
      replace e : (if c' = c then (lookF f fs).map W.fr else none) = some u := e
      split at e
      · rename_i hc
        subst hc
        obtain ⟨d, e1, rfl⟩ := Option.map_eq_some_iff.mp e
        obtain ⟨y, h1, h2⟩ := r.look f e1
        rcases s _ _ h with q | ⟨z, _⟩
        · exact ⟨a, C, dx, vs, y, d, rfl, m, q, h1, rfl, h2⟩
        · exact z.elim
      · cases e
    | _ => cases e
  | obj m h r =>
    rename_i a C dx c' fs vs F
    replace e : (if c' = c then (match lookW f fs with
      | some (.fr d) => some (W.fr d)
      | _ => none) else none) = some u := e
    split at e
    · rename_i hc
      subst hc
      split at e
      · rename_i d e1
        cases e
        obtain ⟨y, h1, h2⟩ := r.look f e1
        exact ⟨a, C, dx, vs, y, d, rfl, m, h, h1, rfl, h2⟩
      · cases e
    · cases e
  | _ => cases e
/-- an instance of the class c without a field m of its own -/
def W.inst (c m : Str) : W → Bool
  | .fr (.obj c' fs) => decide (c' = c) && (lookF m fs).isNone
  | .obj c' fs => decide (c' = c) && (lookW m fs).isNone
  | _ => false
theorem Vw.inst {w : W} {v : V} {c m : Str} (h : Vw G B H w v) (s : Sub B H) (e : w.inst c m = true) : ∃ a C dx fs, v = .ref a ∧ G.mg c = some (.ref C) ∧ H a = some (.ins C dx fs) ∧ fs.lookup m = none := by
  obtain ⟨F, o⟩ := h
  cases o with
  | fr r =>
    cases r with
    | obj mm h r =>
      rename_i a C dx c' fs vs
      obtain ⟨e1, e2⟩ := Bool.and_eq_true_iff.mp e
      have hc := of_decide_eq_true e1
      subst hc
      rcases s _ _ h with q | ⟨z, _⟩
      · exact ⟨a, C, dx, vs, rfl, mm, q, lookF_none m r (by simpa using e2)⟩
      · exact z.elim
    | _ => cases e
  | obj mm h r =>
    rename_i a C dx c' fs vs F
    obtain ⟨e1, e2⟩ := Bool.and_eq_true_iff.mp e
    have hc := of_decide_eq_true e1
    subst hc
    exact ⟨a, C, dx, vs, rfl, mm, h, lookW_none m r (by simpa using e2)⟩
  | _ => cases e
end
section
variable {T : Tx} {X : Cx} {Xw : WX} {P : Nat} {pos : Pos}
/-- e.f -/
theorem pv_fld {e : Expr} {g : M Opd} {C : Addr} (c f : Str) (hm : X.mg c = some (.ref C)) (cl : Cls X.K C) (na : NoAttr X.K C f) (he : PO T X Xw e g) (hb : attributeBase e f X.env (eval e X.env) = eval e X.env := by rfl) : PV T X Xw (.Attribute e f pos) (mOp1 (W.fld c f) g) :=
  peImp (pe_fld he hb) fun σ H Q h => by
    obtain ⟨B, F, R⟩ := h.start
    refine (R.step (k1 := kO)).mono fun x H1 ⟨a, ka, R1⟩ => R1.done fun S B1 F1 o S' st c e wn => ?_
    split at e
    · rename_i w ew
      obtain ⟨u, e1, e2⟩ := Option.map_eq_some_iff.mp e
      cases e2
      obtain ⟨b, C', dx, fs, y, d, rfl, m, hh, hl, rfl, r⟩ := (st.opd (fun z hz => List.mem_append_left _ hz) ka ew).fld st.sub e1
      have m : X.mg _ = some (.ref C') := m
      rw [hm] at m
      cases m
      exact ⟨b, C, dx, fs, y, rfl, hh, cl, na, hl, (wn.new st c).old st.sub r⟩
    · cases e
theorem bindM_assoc {α β γ : Type} {f : M α} {k : α → M β} {l : β → M γ} : bindM (bindM f k) l = bindM f fun a => bindM (k a) l := by
  funext S
  unfold bindM
  rcases f S with _ | ⟨_ | _, _⟩ <;> rfl
def mMethF (c m : Str) (F : Fn) (g : M Opd) (f : M (List Opd)) : M W := bindM g fun o => fun S => match o.get S with
  | some w => if w.inst c m = true then mCallF F (bindM f fun os => pureM (o :: os)) S else none
  | none => none
end
/-- a method of the class c that does as F says -/
structure MtV (P : Program) (w : World) (K : PySem.W.Frag) (mg : Str → Option Value) (base : Heap) (T : Tx) (c m : Str) (ps : List Str) (k : Nat) (F : Fn) : Prop where
  mgc : mg c = some (.ref (He.ga K c))
  cl : Cls K (He.ga K c)
  mt : Meth K (He.ga K c) m (He.ma K (He.ga K c) m)
  ok : ∃ fd, Binds K fd ps [] ∧ FnOk P w K mg base (L2N.CX P w) k (He.ma K (He.ga K c) m) fd ps (spV ⟨K, mg, T⟩ F)
section
variable {T : Tx} {X : Cx} {E : XK} {P : Nat} {pos : Pos}
/-- o.m(e, ..) -/
theorem pv_meth {pl : Sem Bool} {k k' : Nat} {ps : List Str} {F : Fn} {c m : Str} {apos : Pos} {o e : Expr} {es : List Expr} {g : M Opd} {f : M (List Opd)} (mv : MtV X.prog X.w X.K X.mg X.base T c m ps k F) (tk : L2N.Takes X (fun cls d _ H => E cls d H)) (hr : Room k' X.A) (ho : PO T X (fun cls d _ H => E cls d H) o g) (ha : PAO T X (fun cls d _ H => E cls d H) (e :: es) f) (hk : k ≤ k' := by decide)
    (hst : starEach (e :: es) X.env = (false, eval e X.env) :: starEach es X.env := by rfl) (hpl : (backTo pos (starEach es X.env)).any (·.1) = false := by rfl)
    (ht : eval (.Call (.Attribute o m apos) (e :: es) [] pos) X.env = (do
      let ov ← eval o X.env
      standAt apos.atName
      let (f, first) ← holding [ov] (getMethod ov m pl)
      callWith pos f first (backTo pos (starEach (e :: es) X.env)) (backToKw pos (keywordEach [] X.env))) := by rfl) :
    PV T X (fun cls d _ H => E cls d H) (.Call (.Attribute o m apos) (e :: es) [] pos) (mMethF c m F g f) := by
  obtain ⟨fd, hb, Fo⟩ := mv.ok
  refine peImp (pe_meth ho mv.cl mv.mt Fo (hr.mono hk) hb .nil (L2N.passes_call tk fun _ _ _ _ h => h) ha hst hpl ht) fun σ H Q h => ?_
  obtain ⟨B, F0, R⟩ := h.start
  refine (R.step (k1 := kO)).mono fun x H1 ⟨a, ka, S, B1, F1, o, S', st, c, e, wn⟩ => ?_
  dsimp only at e
  split at e
  · rename_i w ew
    split at e
    · rename_i hi
      obtain ⟨b, C, dx, fs, rfl, m, hh, hl⟩ := (st.opd (fun z hz => List.mem_append_left _ hz) ka ew).inst st.sub hi
      have m : X.mg _ = some (.ref C) := m
      rw [mv.mgc] at m
      cases m
      refine ⟨b, dx, fs, rfl, hh, hl, ?_⟩
      have R2 : Run kW (gx X T) σ H B F0 (fun cls d _ H => E cls d H) Q _ _ H1 := ⟨S, B1, F1, o, S', st, c, e, wn⟩
      unfold mCallF at R2
      rw [bindM_assoc] at R2
      refine (R2.step (k1 := kA)).mono fun vs H2 ⟨os, ks, R3⟩ => ?_
      show spV _ F (_ :: (vs ++ [])) _ _ _
      rw [List.append_nil]
      rw [show kA.tm os vs ++ (kO.tm a (V.ref b) ++ []) = tmpsL (a :: os) (V.ref b :: vs) from by simp [kA, kO, tmpsL]] at R3
      exact call_go (Xw := fun cls d _ H => E cls d H) (OkL.cons ka ks) R3
    · cases e
  · cases e
end

section
variable {T : Tx} {X : Cx} {E : XK} {P : Nat} {pos : Pos}
/-- o.m() -/
theorem pv_meth0 {pl : Sem Bool} {k k' : Nat} {ps : List Str} {F : Fn} {c m : Str} {apos : Pos} {o : Expr} {g : M Opd} (mv : MtV X.prog X.w X.K X.mg X.base T c m ps k F) (tk : L2N.Takes X (fun cls d _ H => E cls d H)) (hr : Room k' X.A) (ho : PO T X (fun cls d _ H => E cls d H) o g) (hk : k ≤ k' := by decide)
    (ht : eval (.Call (.Attribute o m apos) [] [] pos) X.env = (do
      let ov ← eval o X.env
      standAt apos.atName
      let (f, first) ← holding [ov] (getMethod ov m pl)
      callWith pos f first (backTo pos (starEach [] X.env)) (backToKw pos (keywordEach [] X.env))) := by rfl) :
    PV T X (fun cls d _ H => E cls d H) (.Call (.Attribute o m apos) [] [] pos) (mMethF c m F g mNil) := by
  obtain ⟨fd, hb, Fo⟩ := mv.ok
  refine peImp (pe_meth0 ho mv.cl mv.mt Fo (hr.mono hk) hb .nil (L2N.passes_call tk fun _ _ _ _ h => h) ht) fun σ H Q h => ?_
  obtain ⟨B, F0, R⟩ := h.start
  refine (R.step (k1 := kO)).mono fun x H1 ⟨a, ka, S, B1, F1, o, S', st, c, e, wn⟩ => ?_
  dsimp only at e
  split at e
  · rename_i w ew
    split at e
    · rename_i hi
      obtain ⟨b, C, dx, fs, rfl, m, hh, hl⟩ := (st.opd (fun z hz => List.mem_append_left _ hz) ka ew).inst st.sub hi
      have m : X.mg _ = some (.ref C) := m
      rw [mv.mgc] at m
      cases m
      refine ⟨b, dx, fs, rfl, hh, hl, ?_⟩
      have R2 : Run kW (gx X T) σ H B F0 (fun cls d _ H => E cls d H) Q _ _ H1 := ⟨S, B1, F1, o, S', st, c, e, wn⟩
      rw [show kO.tm a (V.ref b) ++ [] = tmpsL [a] [V.ref b] from by simp [kO, tmpsL]] at R2
      exact call_go (Xw := fun cls d _ H => E cls d H) (os := [a]) (vs := [.ref b]) (OkL.cons ka .nil) R2
    · cases e
  · cases e
/-! ### a new object -/
structure MkV (P : Program) (w : World) (K : PySem.W.Frag) (mg : Str → Option Value) (base : Heap) (T : Tx) (c : Str) (ps : List Str) (k : Nat) (F : Fn) : Prop where
  mgc : mg c = some (.ref (He.ga K c))
  mkk : Mk K (He.ga K c) (He.ma K (He.ga K c) "__init__")
  ok : ∃ fd, Binds K fd ps [] ∧ FnOk P w K mg base (L2N.CX P w) k (He.ma K (He.ga K c) "__init__") fd ps (spV ⟨K, mg, T⟩ F)
def mMake (c : Str) (F : Fn) (f : M (List Opd)) : M W := bindM f fun os => fun S => match takeL os S with
  | some (ws, S1) => match F (.obj c [] :: ws) with
    | some (.ok (.fr .non), w :: ws') => (giveL os ws' S1).map fun S2 => (.ok w, S2)
    | some (.ex c, _ :: ws') => (giveL os ws' S1).map fun S2 => (.ex c, S2)
    | _ => none
  | none => none
/-- C(e, ..) -/
theorem pv_make {k k' : Nat} {ps : List Str} {F : Fn} {c : Str} {p : Pos} {e : Expr} {es : List Expr} {f : M (List Opd)} (mv : MkV X.prog X.w X.K X.mg X.base T c ps k F) (tk : L2N.Takes X (fun cls d _ H => E cls d H)) (hr : Room k' X.A) (ha : PAO T X (fun cls d _ H => E cls d H) (e :: es) f) (hg : Gl X c := by rfl) (hk : k + 1 ≤ k' := by decide)
    (hdb : (c == ("__debug__" : Str)) = false := by decide) (he : starEach (e :: es) X.env = (false, eval e X.env) :: starEach es X.env := by rfl) (hpl : (backTo pos (starEach es X.env)).any (·.1) = false := by rfl) :
    PV T X (fun cls d _ H => E cls d H) (.Call (.Name c p) (e :: es) [] pos) (mMake c F f) := by
  obtain ⟨fd, hb, Fo⟩ := mv.ok
  refine peImp (pe_make mv.mkk Fo (hr.mono hk) hg mv.mgc hb .nil (L2N.passes_call tk fun _ _ _ _ h => h) ha hdb he hpl) fun σ H Q h => ?_
  obtain ⟨B, F0, R⟩ := h.start
  refine (R.step (k1 := kA)).mono fun vs H1 ⟨os, ks, S, B1, F1, o, S', st, c', e, wn⟩ x dx hx hdx hne => ?_
  show spV _ F (_ :: (vs ++ [])) _ _ _
  rw [List.append_nil]
  dsimp only at e
  split at e
  · rename_i ws S1 et
    have st : Sta (gx X T) σ H1 S (tmpsL os vs ++ []) B1 F1 := by simpa [kA] using st
    obtain ⟨st, hl⟩ := st.takeL ks et
    -- the new object
    have hne' : x ≠ dx := fun z => hne z.symm
    have g1 : Grow H1 (upd (upd H1 dx (.own x)) x (.ins (He.ga X.K c) dx [])) := fun a u q => by
      rw [upd_ne (ne_of_none q hx), upd_ne (ne_of_none q hdx)]; exact q
    have sb : Sub B1 (upd (upd H1 dx (.own x)) x (.ins (He.ga X.K c) dx [])) := st.sub.grow g1
    obtain ⟨st2, c2⟩ := st.more (v := .ref x) (w := .obj c []) (Fw := [x]) g1 (Le.refl _) sb (fun _ _ h => .inl h) (Own.obj mv.mgc upd_same .nil) (fun a m => by rw [List.mem_singleton.mp m]; exact not_live hx) (fun a m => by rw [List.mem_singleton.mp m]; exact fresh_b st.sub hx) (by simp)
    have st2 : Sta (gx X T) σ (upd (upd H1 dx (.own x)) x (.ins (He.ga X.K c) dx [])) S1 ([] ++ (V.ref x :: vs).zip (W.obj c [] :: ws)) B1 ([x] ++ F1) := by simpa using st2
    obtain ⟨Fa, Fb, s1, s2, pp⟩ := st2.split
    split at e
    · rename_i w ws' ef
      obtain ⟨S2, eg, e2⟩ := Option.map_eq_some_iff.mp e
      cases e2
      refine ⟨W.obj c [] :: ws, B1, Fb, .ok (.fr .non), w :: ws', by simp [hl], s2, ef, fun v H' B' F' st' c3 => ?_⟩
      have hv : v = .non := (st'.held (List.mem_cons_self ..)).non
      refine ⟨hv, ?_⟩
      obtain ⟨j1, j2⟩ := st'.join2 c3 s1 pp st2.nd
      have j1 : Sta (gx X T) σ H' S1 ((v, .fr .non) :: ((V.ref x, w) :: vs.zip ws')) B' (Fa ++ F') := by simpa [gx] using j1
      obtain ⟨F3, j3, c4⟩ := Sta.drop2 j1
      have j3 : Sta (gx X T) σ H' S1 (vs.zip ws' ++ [(V.ref x, w)]) B' F3 := j3.turn (by simpa using (List.perm_append_comm (l₁ := [(V.ref x, w)])))
      obtain ⟨F4, j4, c5⟩ := j3.giveL ks eg
      exact wn _ H' B' F4 trivial j4 (c'.trans (c2.trans (j2.trans (c4.trans c5))))
    · rename_i cx w ws' ef
      obtain ⟨S2, eg, e2⟩ := Option.map_eq_some_iff.mp e
      cases e2
      refine ⟨W.obj c [] :: ws, B1, Fb, .ex cx, w :: ws', by simp [hl], s2, ef, fun cls d H' B' F' st' c3 xr => ?_⟩
      obtain ⟨j1, j2⟩ := st'.join2 c3 s1 pp st2.nd
      have j1 : Sta (gx X T) σ H' S1 ((V.ref x, w) :: vs.zip ws') B' (Fa ++ F') := by simpa [gx] using j1
      obtain ⟨F3, j3, c4⟩ := Sta.drop2 j1
      obtain ⟨F4, j4, c5⟩ := Sta.giveL (ts := []) (by simpa using j3) ks eg
      exact wn cls d H' B' F4 j4 (c'.trans (c2.trans (j2.trans (c4.trans c5)))) xr
    · cases e
  · cases e
end

/-! ### o.f = e -/
def putW (f : Str) (w : W) : List (Str × W) → List (Str × W)
  | [] => [(f, w)]
  | (g, x) :: r => if g = f then (g, w) :: r else (g, x) :: putW f w r
section
variable {G : Gx} {σ : St} {H H' B : Hp} {S : Sl} {ts : Tmp} {F : List Addr}
theorem OwnF.put {f : Str} {w : W} {v : V} {Fw : List Addr} (o : Own G B H w v Fw) : ∀ {ws : List (Str × W)} {vs : List (Str × V)} {F : List Addr}, OwnF G B H ws vs F → ∃ F' Fd, OwnF G B H (putW f w ws) (putF f v vs) F' ∧ (F ++ Fw).Perm (F' ++ Fd)
  | [], _, _, .nil => ⟨Fw ++ [], [], .cons o .nil, by simp⟩
  | (g, x) :: ws, (_, y) :: vs, _, .cons (F := Fa) (F' := Fb) h r => by
    by_cases e : g = f
    · refine ⟨Fw ++ Fb, Fa, ?_, ?_⟩
      · have e1 : putW f w ((g, x) :: ws) = (g, w) :: ws := if_pos e
        have e2 : putF f v ((g, y) :: vs) = (g, v) :: vs := if_pos e
        rw [e1, e2]
        exact .cons o r
      · rw [List.append_assoc]
        exact (List.perm_append_comm (l₁ := Fa)).trans ((List.perm_append_comm (l₁ := Fb)).append_right _)
    · obtain ⟨F', Fd, h1, h2⟩ := OwnF.put (f := f) o r
      refine ⟨Fa ++ F', Fd, ?_, ?_⟩
      · have e1 : putW f w ((g, x) :: ws) = (g, x) :: putW f w ws := if_neg e
        have e2 : putF f v ((g, y) :: vs) = (g, y) :: putF f v vs := if_neg e
        rw [e1, e2]
        exact .cons h h1
      · rw [List.append_assoc, List.append_assoc]
        exact h2.append_left _
theorem Sta.setF {f c : Str} {a C dx : Addr} {w : W} {v : V} {ws : List (Str × W)} {vs : List (Str × V)} (s : Sta G σ H S ((v, w) :: (.ref a, .obj c ws) :: ts) B F) (ha : H a = some (.ins C dx vs)) :
    ∃ F', Sta G σ (upd H a (.ins C dx (putF f v vs))) S ((.ref a, .obj c (putW f w ws)) :: ts) B F' ∧ Ch H B F (upd H a (.ins C dx (putF f v vs))) B F' := by
  obtain ⟨F1, F2, o1, o2, p⟩ := s.own
  cases o2 with
  | @cons _ _ _ Fw F3 ow r =>
    cases r with
    | @cons _ _ _ Fo Fr oo r =>
      cases oo with
      | @obj _ C' dx' _ _ vs' Ff hm ha' of =>
        rw [ha] at ha'
        cases ha'
        obtain ⟨F', Fd, h1, h2⟩ := OwnF.put (f := f) ow of
        have q : F.Perm ((F1 ++ ((a :: F') ++ Fr)) ++ Fd) := by
          refine p.trans ?_
          rw [List.append_assoc]
          refine List.Perm.append_left _ ?_
          have e1 : (Fw ++ ((a :: Ff) ++ Fr)).Perm ((a :: (Ff ++ Fw)) ++ Fr) := by
            refine (List.perm_append_comm (l₁ := Fw)).trans ?_
            rw [List.append_assoc]
            have : ((a :: Ff) ++ (Fr ++ Fw)).Perm ((a :: Ff) ++ (Fw ++ Fr)) := (List.perm_append_comm).append_left _
            refine this.trans ?_
            simp
          refine e1.trans ?_
          have e2 : ((a :: (Ff ++ Fw)) ++ Fr).Perm ((a :: (F' ++ Fd)) ++ Fr) := (h2.cons a).append_right _
          refine e2.trans ?_
          simp only [List.cons_append, List.append_assoc]
          exact ((List.perm_append_comm (l₁ := Fd)).append_left _).cons a
        have nd := List.nodup_append.mp (q.nodup_iff.mp s.nd)
        have mem : ∀ x ∈ F1 ++ ((a :: F') ++ Fr), x ∈ F := fun x h => q.mem_iff.mpr (List.mem_append_left _ h)
        have hF : a ∈ F := mem a (List.mem_append_right _ (List.mem_append_left _ (List.mem_cons_self ..)))
        have nd1 := List.nodup_append.mp nd.1
        have nd2 := List.nodup_append.mp nd1.2.1
        have kp : ∀ x, x ≠ a → ∀ u, H x = some u → upd H a (.ins C dx (putF f v vs)) x = some u := fun x hx u e => by rw [upd_ne hx]; exact e
        have n1 : ∀ x ∈ F1, x ≠ a := fun x hx z => nd1.2.2 x hx a (List.mem_append_left _ (List.mem_cons_self ..)) z
        have n2 : ∀ x ∈ Fr, x ≠ a := fun x hx z => nd2.2.2 a (List.mem_cons_self ..) x hx z.symm
        have n3 : ∀ x ∈ F', x ≠ a := fun x hx z => (List.nodup_cons.mp nd2.1).1 (z ▸ hx)
        refine ⟨F1 ++ ((a :: F') ++ Fr), ⟨⟨fun x u e => ?_, s.sub.nt⟩, tabs_upd s.tabs ha (fun _ z => by cases z) (fun _ z => by cases z), ⟨F1, (a :: F') ++ Fr, o1.mono (Le.refl _) fun x hx => kp x (n1 x hx), .cons (.obj hm upd_same (h1.mono (Le.refl _) fun x hx => kp x (n3 x hx))) (r.mono (Le.refl _) fun x hx => kp x (n2 x hx)), .refl _⟩, nd.1, fun x hx => s.apart x (mem x hx)⟩,
          ⟨fun x u e _ hf => kp x (fun z => hf (z ▸ hF)) u e, Le.refl _, fun x hx => .inl (mem x hx), fun _ _ h => .inl h⟩⟩
        have ne : x ≠ a := fun z => by rw [z, s.apart a hF] at e; cases e
        rw [upd_ne ne]
        exact s.sub x u e
end
def setFW (c f : Str) (w : W) : W → Option W
  | .obj c' ws => if c' = c ∧ ws.length < 1000 then some (.obj c (putW f w ws)) else none
  | _ => none
def mSetF (c f : Str) (i : Nat) (m : M W) : MS := bindS m fun w => fun S => match (S[i]?).join with
  | some o => (setFW c f w o).map fun o' => (.nx, S.set i (some o'))
  | none => none
theorem OwnF.length {G : Gx} {B H : Hp} : ∀ {ws : List (Str × W)} {vs : List (Str × V)} {F : List Addr}, OwnF G B H ws vs F → vs.length = ws.length
  | _, _, _, .nil => rfl
  | _, _, _, .cons _ r => by rw [List.length_cons, List.length_cons, OwnF.length r]
section
variable {T : Tx} {X : Cx} {Xw : WX} {P : Nat} {pos : Pos}
/-- slot.f = e -/
theorem psv_setF {C : Addr} (c f : Str) (i : Nat) {x : Str} {e : Expr} {p pos' : Pos} {m : M W} (hm : X.mg c = some (.ref C)) (cl : Cls X.K C) (na : NoAttr X.K C f) (he : PV T X Xw e m) (hN : X.N[i]? = some x := by rfl) (hv : Vis X.env.scope x := by first | exact Or.inl rfl | exact Or.inr (Or.inl rfl) | exact Or.inr (Or.inr rfl)) (hd : (x == ("__debug__" : Str)) = false := by decide) (hcd : (x == ("__classdict__" : Str)) = false := by decide)
    (hs : swapsWith e (some (.Attribute (.Name x p) f pos')) pos.line X.env = pure false := by rfl) : PSV T X Xw P (.Assign [.Attribute (.Name x p) f pos'] e pos) (mSetF c f i m) :=
  psImp (ps_fld (pe_var hN hv hd hcd) he hs) fun Dn σ H h => by
    refine (h.step (k := kW)).mono fun v H1 ⟨w, B, F, B1, F1, S, o, S', _, st, c1, e, wn⟩ => ?_
    have st : Sta (gx X T) σ H1 S [(v, w)] B1 F1 := st
    split at e
    · rename_i ob e0
      obtain ⟨o', e1, e2⟩ := Option.map_eq_some_iff.mp e
      cases e2
      obtain ⟨u, ev, st2⟩ := st.park (slot_some e0)
      cases ob with
      | obj c' ws =>
        replace e1 : (if c' = c ∧ ws.length < 1000 then some (W.obj c (putW f w ws)) else none) = some o' := e1
        split at e1
        · rename_i hc
          cases e1
          obtain ⟨rfl, hl⟩ := hc
          obtain ⟨Fx, ow⟩ := st2.held (List.mem_cons_self ..)
          cases ow with
          | obj hm' ha of =>
            have hm' : X.mg _ = some (.ref _) := hm'
            rw [hm] at hm'
            cases hm'
            obtain ⟨F2, st3, c2⟩ := Sta.setF (f := f) (st2.turn (List.Perm.swap _ _ _)) ha
            have hi : i < S.length := (List.getElem?_eq_some_iff.mp (slot_some e0)).1
            have st4 := st3.unpark (i := i) (by simp [hi]) ev
            rw [List.set_set] at st4
            exact ⟨_, ev, _, C, _, _, rfl, ha, cl, na, by rw [of.length]; exact hl, wn σ _ B1 F2 st4 (c1.trans c2) rfl⟩
        · cases e1
      | _ => cases e1
    · cases e
end
end VD

set_option Elab.async false
set_option linter.all false
set_option maxRecDepth 100000
set_option maxHeartbeats 2000000
namespace VD
open PySem PySem.Spec PyProof.Rows L2

/-! ### methods of the built-in types -/
structure MbW (G : Gx) (T : String) (ok : W → Bool) (r : V → List V → Hp → VK → Prop) (rv : W → List W → Option W) : Prop where
  ty : ∀ {B H : Hp} {x : W} {v : V}, Sub B H → Vw G B H x v → ok x = true → tyV G.K T v H
  run : ∀ {B H : Hp} {x : W} {v : V} {ws : List W} {vs : List V} {w : W} {Q : VK}, Sub B H → Vw G B H x v → VwL G B H ws vs → rv x ws = some w → New G B H w Q → r v vs H Q
def mBM (ok : W → Bool) (rv : W → List W → Option W) (g : M Opd) (f : M (List Opd)) : M W := bindM g fun a => fun S => match a.get S with
  | some x => if ok x = true then (bindM f fun os => fun S => match a.get S, getL S os with
    | some x, some ws => (rv x ws).map fun w => (.ok w, S)
    | _, _ => none) S else none
  | none => none
section
variable {T : Tx} {X : Cx} {Xw : WX} {P : Nat} {pos : Pos}
/-- o.m(e, ..) -/
theorem pv_bm {o e : Expr} {es : List Expr} {name : Str} {apos cpos : Pos} {ty id : String} {ok : W → Bool} {r : V → List V → Hp → VK → Prop} {rv : W → List W → Option W} {g : M Opd} {f : M (List Opd)} (pa : PlainAttrs ty) (slot : Slot ty name id) (hty : typeOf (.builtin id) = pure (.type "method_descriptor")) (hm : MtR X id r) (mw : MbW (gx X T) ty ok r rv) (ho : PO T X Xw o g) (ha : PAO T X Xw (e :: es) f)
    (hbase : attributeBase o name X.env (eval o X.env) = eval o X.env := by rfl)
    (hfew : ((backTo cpos (starEach (e :: es) X.env)).all (fun x => !x.1) && (backToKw cpos (keywordEach [] X.env)).all (fun x => x.1.isSome)
      && decide ((e :: es).length + ([] : List Keyword).length + (if ([] : List Keyword).isEmpty then 0 else 1) < 30)) = true := by rfl)
    (hline : (apos.endLine == cpos.line) = true := by rfl) (hs : starEach (e :: es) X.env = (false, eval e X.env) :: starEach es X.env := by rfl) (hplain : (backTo cpos (starEach es X.env)).any (·.1) = false := by rfl) :
    PV T X Xw (.Call (.Attribute o name apos) (e :: es) [] cpos) (mBM ok rv g f) :=
  peImp (pe_bm pa slot hty hm ho ha hbase hfew hline hs hplain) fun σ H Q h => by
    obtain ⟨B, F0, R⟩ := h.start
    refine (R.step (k1 := kO)).mono fun x H1 ⟨a, ka, S, B1, F1, o, S', st, c, e, wn⟩ => ?_
    dsimp only at e
    split at e
    · rename_i w ew
      split at e
      · rename_i hi
        refine ⟨mw.ty st.sub (st.opd (fun z hz => List.mem_append_left _ hz) ka ew) hi, ?_⟩
        have R2 : Run kW (gx X T) σ H B F0 Xw Q _ _ H1 := ⟨S, B1, F1, o, S', st, c, e, wn⟩
        refine (R2.step (k1 := kA)).mono fun vs H2 ⟨os, ks, R3⟩ => R3.done fun S2 B2 F2 o2 S3 st2 c2 e2 wn2 => ?_
        split at e2
        · rename_i wx ws ex es
          obtain ⟨u, e3, e4⟩ := Option.map_eq_some_iff.mp e2
          cases e4
          exact mw.run st2.sub (st2.opd (fun z hz => List.mem_append_right _ (List.mem_append_left _ hz)) ka ex) (st2.opds (fun z hz => List.mem_append_left _ hz) ks es) e3 (wn2.new st2 c2)
        · cases e2
      · cases e
    · cases e
/-- o.m() -/
theorem pv_bm0 {o : Expr} {name : Str} {apos cpos : Pos} {ty id : String} {ok : W → Bool} {r : V → List V → Hp → VK → Prop} {rv : W → List W → Option W} {g : M Opd} (pa : PlainAttrs ty) (slot : Slot ty name id) (hty : typeOf (.builtin id) = pure (.type "method_descriptor")) (hm : MtR X id r) (mw : MbW (gx X T) ty ok r rv) (ho : PO T X Xw o g)
    (hbase : attributeBase o name X.env (eval o X.env) = eval o X.env := by rfl) (hline : (apos.endLine == cpos.line) = true := by rfl) : PV T X Xw (.Call (.Attribute o name apos) [] [] cpos) (mBM ok rv g mNil) :=
  peImp (pe_bm0 pa slot hty hm ho hbase hline) fun σ H Q h => by
    obtain ⟨B, F0, R⟩ := h.start
    refine (R.step (k1 := kO)).mono fun x H1 ⟨a, ka, S, B1, F1, o, S', st, c, e, wn⟩ => ?_
    dsimp only at e
    split at e
    · rename_i w ew
      split at e
      · rename_i hi
        have vw := st.opd (fun z hz => List.mem_append_left _ hz) ka ew
        refine ⟨mw.ty st.sub vw hi, ?_⟩
        replace e : (match a.get S, getL S [] with
          | some x, some ws => (rv x ws).map fun w => (Res.ok w, S)
          | _, _ => none) = some (o, S') := e
        rw [ew] at e
        obtain ⟨u, e3, e4⟩ := Option.map_eq_some_iff.mp e
        cases e4
        exact mw.run st.sub vw .nil e3 (wn.new st c)
      · cases e
    · cases e
end
def W.isStr : W → Bool
  | .fr (.str _) => true
  | _ => false
theorem Vw.isStr {G : Gx} {B H : Hp} {x : W} {v : V} (h : Vw G B H x v) (e : x.isStr = true) : ∃ s, x = .fr (.str s) ∧ v = .str s := by
  unfold W.isStr at e
  split at e
  · exact ⟨_, rfl, h.str⟩
  · cases e
theorem tyStr {G : Gx} {B H : Hp} {x : W} {v : V} (s : Sub B H) (h : Vw G B H x v) (e : x.isStr = true) : tyV G.K "str" v H := by
  obtain ⟨z, rfl, rfl⟩ := h.isStr e
  rfl
def W.isLst (x : W) : Bool := x.asLr.isSome
theorem tyLst {G : Gx} {B H : Hp} {x : W} {v : V} (s : Sub B H) (h : Vw G B H x v) (e : x.isLst = true) : tyV G.K "list" v H := by
  obtain ⟨ds, e⟩ := Option.isSome_iff_exists.mp e
  obtain ⟨a, vs, rfl, h1, _⟩ := h.lstr s e
  exact .inl ⟨rfl, vs, h1⟩
/-- a text, another one -/
def strM (g : Str → Str → Option D) : W → List W → Option W := fun x ws => match x, ws with
  | .fr (.str a), [.fr (.str b)] => (g a b).map .fr
  | _, _ => none
theorem strM_inv {g : Str → Str → Option D} {x w : W} {ws : List W} (e : strM g x ws = some w) : ∃ a b d, x = .fr (.str a) ∧ ws = [.fr (.str b)] ∧ g a b = some d ∧ w = .fr d := by
  unfold strM at e
  split at e
  · obtain ⟨d, e1, rfl⟩ := Option.map_eq_some_iff.mp e
    exact ⟨_, _, d, rfl, rfl, e1, rfl⟩
  · cases e
def rvStarts : W → List W → Option W := strM fun a b => some (.bl (Txt.startswith a b))
def rvEnds : W → List W → Option W := strM fun a b => some (.bl (Txt.endswith a b))
def rvFind : W → List W → Option W := strM fun a b => some (.int (Txt.find a b))
def rvCountS : W → List W → Option W := strM fun a b => some (.int (Txt.count a b))
theorem mwStarts {G : Gx} : MbW G "str" W.isStr (fun x xs H Q => ∃ a b, x = .str a ∧ xs = [.str b] ∧ Q (.bl (Txt.startswith a b)) H) rvStarts := ⟨tyStr, fun {B H x v ws vs w Q} s vx vl e n => by
  obtain ⟨a, b, d, rfl, rfl, e1, rfl⟩ := strM_inv e
  obtain ⟨u, rfl, vb⟩ := vl.one
  cases e1
  exact ⟨a, b, vx.str, by rw [vb.str], n.bl s⟩⟩
theorem mwEnds {G : Gx} : MbW G "str" W.isStr (fun x xs H Q => ∃ a b, x = .str a ∧ xs = [.str b] ∧ Q (.bl (Txt.endswith a b)) H) rvEnds := ⟨tyStr, fun {B H x v ws vs w Q} s vx vl e n => by
  obtain ⟨a, b, d, rfl, rfl, e1, rfl⟩ := strM_inv e
  obtain ⟨u, rfl, vb⟩ := vl.one
  cases e1
  exact ⟨a, b, vx.str, by rw [vb.str], n.bl s⟩⟩
/-- sep.join(list of texts) -/
def rvJoin : W → List W → Option W := fun x ws => match x, ws with
  | .fr (.str a), [y] => match y.asLr.bind strsD with
    | some ys => if (ys.map (·.length)).sum + ys.length * a.length ≤ 16777216 then some (.fr (.str (Txt.join a ys))) else none
    | none => none
  | _, _ => none
theorem mwJoin {G : Gx} : MbW G "str" W.isStr (fun x xs H Q => ∃ a p, ∃ ys : List Str, x = .str a ∧ xs = [.ref p] ∧ (SqL G.K H p (ys.map V.str) ∨ SqT G.K H p (ys.map V.str)) ∧
    (ys.map (·.length)).sum + ys.length * a.length ≤ 16777216 ∧ Q (.str (Txt.join a ys)) H) rvJoin := ⟨tyStr, fun {B H x v ws vs w Q} s vx vl e n => by
  unfold rvJoin at e
  split at e
  · rename_i a y
    split at e
    · rename_i ys ey
      split at e
      · rename_i hz
        cases e
        obtain ⟨u, rfl, vy⟩ := vl.one
        obtain ⟨ds, e1, e2⟩ := Option.bind_eq_some_iff.mp ey
        obtain ⟨p, us, rfl, h1, r⟩ := vy.lstr s e1
        exact ⟨a, p, ys, vx.str, rfl, .inl (by rw [← strs_rep r e2]; exact h1), hz, n.str s⟩
      · cases e
    · cases e
  · cases e⟩
/-- xs.index(x) -/
def ixOf (p : PyData) : List PyData → Nat → Option Nat
  | [], _ => none
  | q :: qs, i => if PyData.eqv q p = true then some i else ixOf p qs (i + 1)
theorem ixOf_ok {p : PyData} : ∀ {qs : List PyData} {i j : Nat}, ixOf p qs i = some j → ∃ k z, j = i + k ∧ qs[k]? = some z ∧ PyData.eqv z p = true ∧ ∀ m z', m < k → qs[m]? = some z' → PyData.eqv z' p = false
  | q :: qs, i, j, e => by
    unfold ixOf at e
    split at e
    · rename_i h
      cases e
      exact ⟨0, q, rfl, rfl, h, fun m z' hm => absurd hm (Nat.not_lt_zero m)⟩
    · rename_i h
      obtain ⟨k, z, h1, h2, h3, h4⟩ := ixOf_ok e
      refine ⟨k + 1, z, by omega, h2, h3, fun m z' hm hz => ?_⟩
      cases m with
      | zero =>
        cases hz
        simpa using h
      | succ m => exact h4 m z' (by omega) hz
def rvIndex : W → List W → Option W := fun x ws => match ws with
  | [y] => match x.toD.py, y.toD.py with
    | some (.list ps), some q => if SeqAt.shaped (.list ps) && SeqAt.shaped q then (ixOf q ps 0).map fun (j : Nat) => .fr (.int j) else none
    | _, _ => none
  | _ => none
theorem mwIndex {G : Gx} : MbW G "list" W.isLst (rIndexD G.K) rvIndex := ⟨tyLst, fun {B H x v ws vs w Q} s vx vl e n => by
  unfold rvIndex at e
  split at e
  · rename_i y
    split at e
    · rename_i ps q e1 e2
      split at e
      · rename_i hs
        obtain ⟨j, e3, rfl⟩ := Option.map_eq_some_iff.mp e
        obtain ⟨u, rfl, vy⟩ := vl.one
        obtain ⟨F1, o1⟩ := vx
        obtain ⟨F2, o2⟩ := vy
        have hs := Bool.and_eq_true_iff.mp hs
        obtain ⟨k, z, hk, h2, h3, h4⟩ := ixOf_ok e3
        have hk : j = k := by omega
        subst hk
        have d1 := o1.dp s e1
        have hv : ∃ a, v = .ref a := by cases d1 <;> exact ⟨_, rfl⟩
        obtain ⟨a, rfl⟩ := hv
        exact ⟨a, u, q, ps, j, z, rfl, rfl, d1, o2.dp s e2, hs.1, hs.2, h2, h3, fun m z' => h4 m z', n.int s⟩
      · cases e
    · cases e
  · cases e⟩
/-! ### < of data -/
def rLtD (K : PySem.W.Frag) : R2 := fun x y H Q => ∃ d e, Dp K H x d ∧ Dp K H y e ∧ PySem.W.alike d e = true ∧ d ≠ .none ∧ min d.depth e.depth ≤ 64 ∧ Q (.bl (PySem.W.dataLt d e)) H
theorem op_ltD {X : Cx} (hu : X.A.units + 64 < cLine) : OpR X (compareOp .Lt) (rLtD X.K) := by
  intro pins s σ H x y v u Q I rx ry h
  obtain ⟨d, e, hd, he, al, hn, hz, q⟩ := h
  obtain ⟨as, r1⟩ := Dp.reads I d x v hd rx
  obtain ⟨bs, r2⟩ := Dp.reads I e y u he ry
  exact PySem.W.lt_data r1 r2 al hn (by omega) ⟨.bl _, H, I, rfl, q⟩

def isNonP : PyData → Bool
  | .none => true
  | _ => false
def ltD (x y : D) : Option Bool := match x.py, y.py with
  | some p, some q => if (PySem.W.alike p q && (!isNonP p && decide (min p.depth q.depth ≤ 64))) = true then some (PySem.W.dataLt p q) else none
  | _, _ => none
def rvLtD : W → W → Option W := fun x y => (ltD x.toD y.toD).map fun b => .fr (.bl b)
theorem op2LtD {G : Gx} : Op2 G (rLtD G.K) rvLtD := fun {B H x y w v u Q} s ⟨F1, o1⟩ ⟨F2, o2⟩ e n => by
  obtain ⟨b, e', rfl⟩ := Option.map_eq_some_iff.mp e
  unfold ltD at e'
  split at e'
  · rename_i p q e1 e2
    split at e'
    · rename_i h
      cases e'
      obtain ⟨h1, h2⟩ := Bool.and_eq_true_iff.mp h
      obtain ⟨h2, h3⟩ := Bool.and_eq_true_iff.mp h2
      exact ⟨p, q, o1.dp s e1, o2.dp s e2, h1, (fun z => by subst z; cases h2), of_decide_eq_true h3, n.bl s⟩
    · cases e'
  · cases e'
def rvLtU : W → W → Option W := orO rvLt rvLtD
def rLtU (K : PySem.W.Frag) : R2 := fun x y H Q => rI0 (fun i j => .bl (decide (i < j))) x y H Q ∨ rLtD K x y H Q
theorem op2LtU {G : Gx} : Op2 G (rLtU G.K) rvLtU := Op2.or op2Lt op2LtD
theorem opLtU {X : Cx} (hu : X.A.units + 64 < cLine) : OpR X (compareOp .Lt) (rLtU X.K) := op_lt.or (op_ltD hu)
/-! ### a, b = x, y -/
def stoL : List Nat → List Opd → Sl → Option Sl
  | [], [], S => some S
  | i :: is, .tmp w :: os, S => if i < S.length then stoL is os (S.set i (some w)) else none
  | _, _, _ => none
theorem stoL_cons {i : Nat} {is : List Nat} {os : List Opd} {S S' : Sl} (e : stoL (i :: is) os S = some S') : ∃ w os', os = .tmp w :: os' ∧ i < S.length ∧ stoL is os' (S.set i (some w)) = some S' := by
  cases os with
  | nil => cases e
  | cons o os =>
    cases o with
    | tmp w =>
      replace e : (if i < S.length then stoL is os (S.set i (some w)) else none) = some S' := e
      split at e
      · exact ⟨w, os, rfl, by assumption, e⟩
      · cases e
    | «at» i => cases e
theorem stoL_nil {os : List Opd} {S S' : Sl} (e : stoL [] os S = some S') : os = [] ∧ S' = S := by
  cases os with
  | nil => cases e; exact ⟨rfl, rfl⟩
  | cons o os => cases e
theorem okL_cons {σ : St} {o : Opd} {os : List Opd} {vs : List V} (k : OkL σ (o :: os) vs) : ∃ v vs', vs = v :: vs' ∧ OkL σ os vs' := by
  cases k with
  | cons _ r => exact ⟨_, _, rfl, r⟩
theorem okL_nil {σ : St} {vs : List V} (k : OkL σ [] vs) : vs = [] := by cases k; rfl
def mPar (is : List Nat) (f : M (List Opd)) : MS := bindS f fun os => fun S => (stoL is os S).map fun S' => (.nx, S')
section
variable {T : Tx} {X : Cx} {Xw : WX} {P : Nat} {pos : Pos}
theorem psv_par {i j : Nat} {x y : Str} {a b : Expr} {f : M (List Opd)} {px py pt : Pos} {kt k2 pt2} (hc : X.calm = true) (hN : X.N.Nodup) (ha : PAO T X Xw [a, b] f) (hi : X.N[i]? = some x := by rfl) (hj : X.N[j]? = some y := by rfl) (hij : i ≠ j := by decide)
    (hx : X.env.scope.names.lookup x = some .local := by rfl) (hy : X.env.scope.names.lookup y = some .local := by rfl) (hP : P ≤ i := by decide) (hP2 : P ≤ j := by decide)
    (hw : swappedStores [.Tuple [.Name x px, .Name y py] kt pt] (.Tuple [a, b] k2 pt2) X.env = pure (some [x, y]) := by rfl)
    (hs : swapsWithSole [.Tuple [.Name x px, .Name y py] kt pt] (.Tuple [a, b] k2 pt2) pos.line X.env = pure false := by rfl) :
    PSV T X Xw P (.Assign [.Tuple [.Name x px, .Name y py] kt pt] (.Tuple [a, b] k2 pt2) pos) (mPar [i, j] f) :=
  psImp (ps_par hc hN hi hj hij hx hy ha hw hs) fun Dn σ H h => by
    refine (h.step (k := kA)).mono fun vs H1 ⟨os, B, F, B1, F1, S, o, S', ks, st, c, e, wn⟩ => ?_
    obtain ⟨S2, e1, e2⟩ := Option.map_eq_some_iff.mp e
    cases e2
    have st : Sta (gx X T) σ H1 S (tmpsL os vs) B1 F1 := st
    obtain ⟨w1, os, rfl, h1, e1⟩ := stoL_cons e1
    obtain ⟨w2, os, rfl, h2, e1⟩ := stoL_cons e1
    obtain ⟨rfl, rfl⟩ := stoL_nil e1
    obtain ⟨v1, vs1, rfl, ks1⟩ := okL_cons ks
    obtain ⟨v2, vs2, rfl, ks2⟩ := okL_cons ks1
    cases okL_nil ks2
    have st : Sta (gx X T) σ H1 S [(v2, w2), (v1, w1)] B1 F1 := st
    obtain ⟨F2, s2, c2⟩ := Sta.store (st.turn (List.Perm.swap _ _ _)) h1
    obtain ⟨F3, s3, c3⟩ := Sta.store s2 h2
    exact ⟨v1, v2, rfl, wn _ H1 B1 F3 s3 (c.trans (c2.trans c3)) (by rw [take_set hP2, take_set hP])⟩
theorem psv_par3 {i j l : Nat} {x y z : Str} {a b c : Expr} {f : M (List Opd)} {px py pz pt : Pos} {kt k2 pt2} (hc : X.calm = true) (hN : X.N.Nodup) (ha : PAO T X Xw [a, b, c] f) (hi : X.N[i]? = some x := by rfl) (hj : X.N[j]? = some y := by rfl) (hl : X.N[l]? = some z := by rfl) (hij : i ≠ j := by decide) (hil : i ≠ l := by decide) (hjl : j ≠ l := by decide)
    (hx : X.env.scope.names.lookup x = some .local := by rfl) (hy : X.env.scope.names.lookup y = some .local := by rfl) (hz : X.env.scope.names.lookup z = some .local := by rfl) (hP : P ≤ i := by decide) (hP2 : P ≤ j := by decide) (hP3 : P ≤ l := by decide)
    (hw : swappedStores [.Tuple [.Name x px, .Name y py, .Name z pz] kt pt] (.Tuple [a, b, c] k2 pt2) X.env = pure (some [x, y, z]) := by rfl)
    (hs : swapsWithSole [.Tuple [.Name x px, .Name y py, .Name z pz] kt pt] (.Tuple [a, b, c] k2 pt2) pos.line X.env = pure false := by rfl) :
    PSV T X Xw P (.Assign [.Tuple [.Name x px, .Name y py, .Name z pz] kt pt] (.Tuple [a, b, c] k2 pt2) pos) (mPar [i, j, l] f) :=
  psImp (ps_par3 hc hN hi hj hl hij hil hjl hx hy hz ha hw hs) fun Dn σ H h => by
    refine (h.step (k := kA)).mono fun vs H1 ⟨os, B, F, B1, F1, S, o, S', ks, st, c, e, wn⟩ => ?_
    obtain ⟨S2, e1, e2⟩ := Option.map_eq_some_iff.mp e
    cases e2
    have st : Sta (gx X T) σ H1 S (tmpsL os vs) B1 F1 := st
    obtain ⟨w1, os, rfl, h1, e1⟩ := stoL_cons e1
    obtain ⟨w2, os, rfl, h2, e1⟩ := stoL_cons e1
    obtain ⟨w3, os, rfl, h3, e1⟩ := stoL_cons e1
    obtain ⟨rfl, rfl⟩ := stoL_nil e1
    obtain ⟨v1, vs1, rfl, ks1⟩ := okL_cons ks
    obtain ⟨v2, vs2, rfl, ks2⟩ := okL_cons ks1
    obtain ⟨v3, vs3, rfl, ks3⟩ := okL_cons ks2
    cases okL_nil ks3
    have st : Sta (gx X T) σ H1 S [(v3, w3), (v2, w2), (v1, w1)] B1 F1 := st
    have p : [(v3, w3), (v2, w2), (v1, w1)].Perm [(v1, w1), (v2, w2), (v3, w3)] := by
      have := List.reverse_perm [(v1, w1), (v2, w2), (v3, w3)]
      simpa using this
    obtain ⟨F2, s2, c2⟩ := Sta.store (st.turn p) h1
    obtain ⟨F3, s3, c3⟩ := Sta.store s2 h2
    obtain ⟨F4, s4, c4⟩ := Sta.store s3 h3
    exact ⟨v1, v2, v3, rfl, wn _ H1 B1 F4 s4 (c.trans (c2.trans (c3.trans c4))) (by rw [take_set hP3, take_set hP2, take_set hP])⟩
/-- a, b, .. = e -/
def mUnp (f : M W) (b : Tgt) : MS := bindS f fun w => fun S => (b w.toD S).map fun S' => (.nx, S')
theorem psv_unp {sl : List Nat} {tg e : Expr} {g : TG} {b : Tgt} {f : M W} (he : PV T X Xw e f) (hg : PGV T X sl tg g b) (hP : ∀ i ∈ sl, P ≤ i := by decide) (hs : swapsWithSole [tg] e pos.line X.env = pure false := by rfl) (hw : swappedStores [tg] e X.env = pure none := by rfl)
    (h1 : (assignEach [tg] X.env).map (·.2) = [assign tg X.env] := by rfl) : PSV T X Xw P (.Assign [tg] e pos) (mUnp f b) :=
  psImp (ps_asg he hg.pg hs hw h1) fun Dn σ H h => by
    refine (h.step (k := kW)).mono fun v H1 ⟨w, B, F, B1, F1, S, o, S', _, st, c, e, wn⟩ => ?_
    obtain ⟨S2, e1, e2⟩ := Option.map_eq_some_iff.mp e
    cases e2
    have st : Sta (gx X T) σ H1 S [(v, w)] B1 F1 := st
    obtain ⟨B2, F2, s2, c2⟩ := Sta.settle st
    have r : Rep (gx X T) B2 w.toD v := (s2.held (List.mem_cons_self ..)).rep
    obtain ⟨F3, s3, c3⟩ := Sta.drop2 s2
    exact hg.go s3 r e1 fun σ' F' s4 c4 al => wn σ' H1 B2 F' s4 (c.trans (c2.trans (c3.trans c4))) (al.take hP)
end
end VD

set_option Elab.async false
set_option linter.all false
set_option maxRecDepth 100000
set_option maxHeartbeats 2000000
namespace VD
open PySem PySem.Spec PyProof.Rows L2

/-! ### enumerate -/
def enumD (i : Nat) : List D → List D
  | [] => []
  | d :: ds => .tup [.int (i : Nat), d] :: enumD (i + 1) ds
theorem enumD_len : ∀ {ds : List D} {i : Nat}, (enumD i ds).length = ds.length
  | [], _ => rfl
  | _ :: ds, i => by show (enumD (i + 1) ds).length + 1 = ds.length + 1; rw [enumD_len]
theorem enumD_get : ∀ {ds : List D} {i j : Nat} {d : D}, (enumD i ds)[j]? = some d → ∃ e, ds[j]? = some e ∧ d = .tup [.int ((i + j : Nat) : Int), e]
  | d0 :: ds, i, 0, d, e => by cases e; exact ⟨d0, rfl, rfl⟩
  | d0 :: ds, i, j + 1, d, e => by
    obtain ⟨x, h1, h2⟩ := enumD_get (ds := ds) (i := i + 1) (j := j) e
    exact ⟨x, h1, by rw [h2]; congr 3; omega⟩
theorem ite_ok {G : Gx} {B : Hp} {a : Addr} {vs : List V} {ds : List D} (h : SqL G.K B a vs) (r : RepL G B ds vs) : ItOk G (Ite G.K a) B (enumD 0 ds) := fun B1 H1 l s => by
  have q := sqL_sub s (sqL_le l h)
  refine ⟨⟨vs, q, by rw [r.length, enumD_len]; exact Nat.le_refl _⟩, fun i d e => ?_⟩
  obtain ⟨d0, e0, rfl⟩ := enumD_get e
  obtain ⟨v, h1, h2⟩ := r.get e0
  refine ⟨⟨vs, v, q, h1⟩, fun x H2 y => ?_⟩
  obtain ⟨p, z, rfl, hp, rfl, y⟩ := y
  have e2 := y vs q
  rw [h1] at e2
  cases e2
  have hb := fresh_b s hp
  refine ⟨upd B1 p (.tup [.int (i : Nat), v]), .new hp, Le.upd hb, ⟨fun b u eb => ?_, fun b ps eb => ?_⟩, fun b u eb => ?_, ?_⟩
  · by_cases z : b = p
    · subst z; rw [upd_same] at eb ⊢; exact .inl eb
    · rw [upd_ne z] at eb ⊢; exact s b u eb
  · by_cases z : b = p
    · subst z; rw [upd_same] at eb; cases eb
    · rw [upd_ne z] at eb; exact s.nt b ps eb
  · by_cases z : b = p
    · subst z; exact .inr (not_live hp)
    · rw [upd_ne z] at eb; exact .inl eb
  · refine .tup (SqT.of upd_same) ?_
    have : ((0 + i : Nat) : Int) = (i : Nat) := by rw [Nat.zero_add]
    rw [this]
    exact .cons .int (.cons (h2.mono (l.trans (Le.upd hb))) .nil)
def mEnum (f : M W) : M (List D) := bindM f fun w => fun S => match w.toD with
  | .lst ds => some (.ok (enumD 0 ds), S)
  | _ => none
section
variable {T : Tx} {X : Cx} {Xw : WX} {pos : Pos}
theorem piv_enum {e : Expr} {f : M W} {p pos tpos : Pos} {elts : List Expr} {kk : Nat} (hg : Gl X "enumerate") (hm : X.mg "enumerate" = none) (he : PV T X Xw e f) (hs : starEach [e] X.env = [(false, eval e X.env)] := by rfl) : PIV T X Xw (.Tuple elts kk tpos) (.Call (.Name "enumerate" p) [e] [] pos) (mEnum f) :=
  piImp (pi_enum hg hm (pa_cons he pa_nil hs) hs) fun σ H R ⟨S, B, F, o, S', st, e, w⟩ => by
    unfold mEnum bindM at e
    cases e1 : f S with
    | none => rw [e1] at e; cases e
    | some q =>
      obtain ⟨r, S1⟩ := q
      rw [e1] at e
      cases r with
      | ex c =>
        cases e
        exact ⟨S, B, F, _, _, st, e1, w⟩
      | ok x =>
        dsimp only at e
        split at e
        · rename_i ds ex
          cases e
          refine ⟨S, B, F, _, S', st, e1, ?_⟩
          intro v H' B' F' _ st' c
          have st' : Sta (gx X T) σ H' S' [(v, x)] B' F' := st'
          obtain ⟨B2, F2, s2, c2⟩ := Sta.settle st'
          have r : Rep (gx X T) B2 x.toD v := (s2.held (List.mem_cons_self ..)).rep
          obtain ⟨F3, s3, c3⟩ := Sta.drop2 s2
          rw [ex] at r
          cases r with
          | lst h r => exact ⟨_, _, rfl, sqL_sub s3.sub (SqL.of h), w _ H' B2 F3 s3 (c.trans (c2.trans c3)) (ite_ok (SqL.of h) r)⟩
        · cases e
end
/-! ### dict comprehensions -/
def putD (kvs : List (Key × W)) (k : Key) (w : W) : List (Key × W) :=
  if (kvs.any fun kv => decide (kv.1 = k)) = true then kvs.map (fun kv => if kv.1 = k then (kv.1, w) else kv) else kvs ++ [(k, w)]
/-- settled values alone -/
def putDD (kvs : List (Key × D)) (k : Key) (d : D) : List (Key × D) :=
  if (kvs.any fun kv => decide (kv.1 = k)) = true then kvs.map (fun kv => if kv.1 = k then (kv.1, d) else kv) else kvs ++ [(k, d)]
theorem RepK.any {G : Gx} {B : Hp} (k : Key) : ∀ {ds : List (Key × D)} {vs : List (Key × V)}, RepK G B ds vs → (vs.any fun kv => decide (kv.1 = k)) = ds.any fun kv => decide (kv.1 = k)
  | _, _, .nil => rfl
  | _, _, .cons h r => by rw [List.any_cons, List.any_cons, RepK.any k r]
theorem RepK.snoc {G : Gx} {B : Hp} {k : Key} {d : D} {v : V} (h : Rep G B d v) : ∀ {ds : List (Key × D)} {vs : List (Key × V)}, RepK G B ds vs → RepK G B (ds ++ [(k, d)]) (vs ++ [(k, v)])
  | _, _, .nil => .cons h .nil
  | _, _, .cons h' r => .cons h' (RepK.snoc h r)
theorem RepK.repl {G : Gx} {B : Hp} {k : Key} {d : D} {v : V} (h : Rep G B d v) : ∀ {ds : List (Key × D)} {vs : List (Key × V)}, RepK G B ds vs → RepK G B (ds.map fun kv => if kv.1 = k then (kv.1, d) else kv) (vs.map fun kv => if kv.1 = k then (kv.1, v) else kv)
  | _, _, .nil => .nil
  | _, _, .cons (k := k') h' r => by
    rw [List.map_cons, List.map_cons]
    by_cases e : k' = k
    · rw [if_pos e, if_pos e]; exact .cons h (RepK.repl h r)
    · rw [if_neg e, if_neg e]; exact .cons h' (RepK.repl h r)
theorem RepK.put {G : Gx} {B : Hp} {k : Key} {d : D} {v : V} {ds : List (Key × D)} {vs : List (Key × V)} (r : RepK G B ds vs) (h : Rep G B d v) : RepK G B (putDD ds k d) (L2.putK vs k v) := by
  unfold putDD L2.putK
  rw [r.any k]
  split
  · exact r.repl h
  · exact r.snoc h
theorem putDD_len {ds : List (Key × D)} {k : Key} {d : D} : (putDD ds k d).length ≤ ds.length + 1 := by
  unfold putDD
  split
  · rw [List.length_map]; omega
  · simp
def frD (kvs : List (Key × D)) : List (Key × W) := kvs.map fun kv => (kv.1, .fr kv.2)
theorem RepK.own {G : Gx} {B H : Hp} : ∀ {ds : List (Key × D)} {vs : List (Key × V)}, RepK G B ds vs → OwnK G B H (frD ds) vs []
  | _, _, .nil => .nil
  | _, _, .cons h r => OwnK.cons (F := []) (F' := []) (.fr h) (RepK.own r)
theorem ownK_fr {G : Gx} {B H : Hp} : ∀ {ds : List (Key × D)} {vs : List (Key × V)} {F : List Addr}, OwnK G B H (frD ds) vs F → F = [] ∧ RepK G B ds vs
  | [], _, _, .nil => ⟨rfl, .nil⟩
  | (k, d) :: ds, _, _, .cons h r => by
    obtain ⟨e, r⟩ := ownK_fr r
    cases h with
    | fr h => exact ⟨by rw [e]; rfl, .cons h r⟩
/-- an own dict of settled values gets a value -/
theorem Sta.putDct {G : Gx} {σ : St} {H B : Hp} {S : Sl} {ts : Tmp} {F : List Addr} {D' : Addr} {ds ds' : List (Key × VD.D)} {vs' : List (Key × V)} (s : Sta G σ H S ((.ref D', .dct (frD ds)) :: ts) B F) (r : RepK G B ds' vs') :
    ∃ vs, H D' = some (.dK vs) ∧ RepK G B ds vs ∧ Sta G σ (upd H D' (.dK vs')) S ((.ref D', .dct (frD ds')) :: ts) B F ∧ Ch H B F (upd H D' (.dK vs')) B F := by
  obtain ⟨Fw, ow⟩ := s.held (List.mem_cons_self ..)
  cases ow with
  | dct h ok =>
    obtain ⟨_, r0⟩ := ownK_fr ok
    refine ⟨_, h, r0, ?_⟩
    refine s.put (Fx := []) h (fun _ z => by cases z) (fun _ z => by cases z) fun Fw ow => ?_
    cases ow with
    | dct h2 ok2 =>
      obtain ⟨rfl, _⟩ := ownK_fr ok2
      exact ⟨List.mem_cons_self .., fun H' e _ => .dct e (r.own (H := H'))⟩

def mDCompL (own : List Nat) (b : Tgt) (c : M Bool) (kf vf : M W) : List D → List (Key × D) → Sl → Option (List (Key × D) × Sl)
  | [], acc, S => some (acc, S)
  | d :: ds, acc, S => match b d S with
    | none => none
    | some S1 => match c S1 with
      | some (.ok true, S2) => match kf S2 with
        | some (.ok wk, S3) => match vf S3 with
          | some (.ok (.fr dv), S4) => match wk.key with
            | some k => mDCompL own b c kf vf ds (putDD acc k dv) (wipeS S4 own)
            | none => none
          | _ => none
        | _ => none
      | some (.ok false, S2) => mDCompL own b c kf vf ds acc (wipeS S2 own)
      | _ => none
def mDComp (own : List Nat) (fi : M (List D)) (b : Tgt) (c : M Bool) (kf vf : M W) : M W := bindM fi fun ds => fun S => if ds.length < sizeLine then
    (mDCompL own b c kf vf ds [] (wipeS S own)).map fun q => (.ok (.dct (frD q.1)), restS S q.2 own)
  else none
section
variable {T : Tx} {X : Cx} {Xw : WX} {pos : Pos}
theorem dcomp_go {σ : St} {H : Hp} {Q : VK} {fi : M (List D)} {own : List Nat} {g : TG} {b : Tgt} {tc : M Bool} {kf vf : M W}
    (hg : ∀ {σ : St} {H B : Hp} {F : List Addr} {S S' : Sl} {ts : Tmp} {d : D} {v : V} {Q : St → Hp → Prop}, Sta (gx X T) σ H S ts B F → Rep (gx X T) B d v → b d S = some S' →
      (∀ σ' F', Sta (gx X T) σ' H S' ts B F' → Ch H B F H B F' → Alike own σ σ' → Q σ' H) → g v σ H Q)
    (h : rdG kW (gx X T) σ H Xw Q (mDComp own fi b tc kf vf)) :
    tDc (rdI (gx X T) Xw fi) g (fun σ H Q => rdG kB (gx X T) σ H X0 Q tc) (fun σ H Q => rdG kW (gx X T) σ H X0 Q kf) (fun σ H Q => rdG kW (gx X T) σ H X0 Q vf) own σ H Q := by
  obtain ⟨S, B, F, o, S', st, e, w⟩ := h
  unfold mDComp bindM at e
  cases e1 : fi S with
  | none => rw [e1] at e; cases e
  | some q =>
    obtain ⟨r, S1⟩ := q
    rw [e1] at e
    cases r with
    | ex c =>
      cases e
      exact ⟨S, B, F, _, _, st, e1, w⟩
    | ok ds =>
      dsimp only at e
      split at e
      · rename_i hz
        obtain ⟨⟨out, S9⟩, e2, e3⟩ := Option.map_eq_some_iff.mp e
        cases e3
        refine ⟨S, B, F, _, S1, st, e1, fun J H1 B1 F1 st1 c1 it D hD => ?_⟩
        obtain ⟨F2, s2, c2⟩ := st1.wipe own
        have gr : Grow H1 (upd H1 D (.dK [])) := .new hD
        obtain ⟨s3, c3⟩ := s2.more (v := .ref D) (w := .dct (frD [])) (Fw := [D]) gr (Le.refl _) (s2.sub.grow gr) (fun _ _ h => .inl h) (Own.dct upd_same .nil) (fun a m => by rw [List.mem_singleton.mp m]; exact not_live hD) (fun a m => by rw [List.mem_singleton.mp m]; exact fresh_b s2.sub hD) (by simp)
        have c4 := c1.trans (c2.trans c3)
        refine ⟨fun i k H4 => k = ds.length - i ∧ i ≤ ds.length ∧ ∃ S4 B4 F4 acc, Sta (gx X T) (L2.wipe σ own) H4 S4 [(.ref D, .dct (frD acc))] B4 F4 ∧ Ch H B F H4 B4 F4 ∧ Le B1 B4 ∧ (∀ j ∈ own, (S4[j]?).join = none) ∧ acc.length ≤ i ∧
          mDCompL own b tc kf vf (ds.drop i) acc S4 = some (out, S9), ⟨ds.length, by simp, Nat.zero_le _, _, B1, _, [], s3, c4, Le.refl _, fun j hj => wipeS_in hj, Nat.le_refl _, e2⟩, ?_⟩
        rintro i k H4 ⟨rfl, hil, S4, B4, F4, acc, st4, c5, l4, hw4, hacc, e4⟩
        obtain ⟨hstop, hgo⟩ := it B4 H4 l4 st4.sub
        by_cases hlt : i < ds.length
        · have hd : ds[i]? = some ds[i] := List.getElem?_eq_getElem hlt
          rw [List.drop_eq_getElem_cons hlt] at e4
          obtain ⟨go1, yld1⟩ := hgo i _ hd
          refine .inr ⟨go1, fun H' => ∃ S4 B4 F4 acc, Sta (gx X T) (L2.wipe σ own) H' S4 [(.ref D, .dct (frD acc))] B4 F4 ∧ Ch H B F H' B4 F4 ∧ Le B1 B4 ∧ (∀ j ∈ own, (S4[j]?).join = none) ∧ acc.length ≤ i + 1 ∧
            mDCompL own b tc kf vf (ds.drop (i + 1)) acc S4 = some (out, S9), fun H' q => ⟨ds.length - (i + 1), by omega, rfl, hlt, q⟩, fun x H5 y => ?_⟩
          obtain ⟨B5, gr5, l5, sb5, fr5, rp⟩ := yld1 x H5 y
          obtain ⟨st5, c6⟩ := st4.up gr5 l5 sb5 fr5
          unfold mDCompL at e4
          split at e4
          · cases e4
          · rename_i S5 eb
            refine hg st5 rp eb fun τ F6 st6 c7 al => ⟨(al.wipe).trans wipe_idem, ?_⟩
            have c8 := c5.trans (c6.trans c7)
            have hwt : L2.wipe τ own = L2.wipe σ own := (al.wipe).trans wipe_idem
            have again : ∀ {S7 : Sl} {H7 B7 : Hp} {F7 : List Addr} {acc' : List (Key × VD.D)}, Sta (gx X T) τ H7 S7 [(.ref D, .dct (frD acc'))] B7 F7 → Ch H B F H7 B7 F7 → Le B1 B7 → acc'.length ≤ i + 1 → mDCompL own b tc kf vf (ds.drop (i + 1)) acc' (wipeS S7 own) = some (out, S9) →
                ∃ S4 B4 F4 acc, Sta (gx X T) (L2.wipe σ own) H7 S4 [(.ref D, .dct (frD acc))] B4 F4 ∧ Ch H B F H7 B4 F4 ∧ Le B1 B4 ∧ (∀ j ∈ own, (S4[j]?).join = none) ∧ acc.length ≤ i + 1 ∧ mDCompL own b tc kf vf (ds.drop (i + 1)) acc S4 = some (out, S9) := by
              intro S7 H7 B7 F7 acc' st7 c9 l7 ha he
              obtain ⟨F8, s8, c10⟩ := st7.wipe own
              rw [hwt] at s8
              exact ⟨_, B7, F8, acc', s8, c9.trans c10, l7, fun j hj => wipeS_in hj, ha, he⟩
            split at e4
            · rename_i S6 et
              split at e4
              · rename_i wk S7 ef
                split at e4
                · rename_i dv S8 eg
                  split at e4
                  · rename_i kk ek
                    refine rdG.frame (k := kB) st6 et fun b' H6 B6 F7 kb st7 c9 => ?_
                    have kb : true = b' := kb
                    subst kb
                    refine iteT ?_
                    have st7 : Sta (gx X T) τ H6 S6 [(.ref D, .dct (frD acc))] B6 F7 := st7
                    refine rdG.frame (k := kW) st7 ef fun yv H7 B7 F8 _ st8 c10 => ?_
                    have st8 : Sta (gx X T) τ H7 S7 [(yv, wk), (.ref D, .dct (frD acc))] B7 F8 := st8
                    refine rdG.frame (k := kW) st8 eg fun zv H8 B8 F9 _ st9 c11 => ?_
                    have st9 : Sta (gx X T) τ H8 S8 [(zv, .fr dv), (yv, wk), (.ref D, .dct (frD acc))] B8 F9 := st9
                    have ey : yv = kV kk := by
                      cases wk with
                      | fr d => exact ((st9.held (List.mem_cons_of_mem _ (List.mem_cons_self ..))).rep).key ek
                      | _ => cases ek
                    have rz : Rep (gx X T) B8 dv zv := (st9.held (List.mem_cons_self ..)).rep
                    obtain ⟨F10, st10, c12⟩ := Sta.drop2 st9
                    obtain ⟨F11, st11, c13⟩ := Sta.drop2 st10
                    obtain ⟨vs0, hD0, r0⟩ : ∃ vs, H8 D = some (.dK vs) ∧ RepK (gx X T) B8 acc vs := by
                      obtain ⟨Fw, ow⟩ := st11.held (List.mem_cons_self ..)
                      cases ow with
                      | dct h ok => exact ⟨_, h, (ownK_fr ok).2⟩
                    obtain ⟨vs1, hD1, r1, st12, c14⟩ := Sta.putDct (ds' := putDD acc kk dv) st11 (r0.put rz)
                    have cc := c8.trans (c9.trans (c10.trans (c11.trans (c12.trans (c13.trans c14)))))
                    refine ⟨vs0, kk, ey, hD0, by rw [r0.length]; omega, ?_⟩
                    exact again (acc' := putDD acc kk dv) st12 cc (l4.trans (l5.trans (c7.le.trans (c9.le.trans (c10.le.trans (c11.le.trans (c12.le.trans (c13.le.trans c14.le)))))))) (Nat.le_trans putDD_len (by omega)) e4
                  · cases e4
                · cases e4
              · cases e4
            · rename_i S6 et
              refine rdG.frame (k := kB) st6 et fun b' H6 B6 F7 kb st7 c9 => ?_
              have kb : false = b' := kb
              subst kb
              refine iteF ?_
              exact again (acc' := acc) st7 (c8.trans c9) (l4.trans (l5.trans (c7.le.trans c9.le))) (by omega) e4
            · cases e4
        · have hi' : i = ds.length := by omega
          subst hi'
          rw [List.drop_length] at e4
          cases e4
          refine .inl ⟨hstop, ?_⟩
          have s5 := st4.unwipe hw4
          obtain ⟨F7, s6, c8⟩ := s5.rest (S0 := S1) (is := own) fun j hj d ej => by
            obtain ⟨v, ev, p⟩ := st1.park ej
            exact ⟨v, ev, ((p.held (List.mem_cons_self ..)).rep).mono l4⟩
          exact w (.ref D) H4 B4 F7 trivial s6 (c5.trans c8)
      · cases e
theorem pv_dcomp {kx vx tg iter : Expr} {ifs : List Expr} {scope : Scope} {own : List (Str × Nat)} {sl : List Nat} {g : TG} {b : Tgt} {fi : M (List D)} {tc : M Bool} {kf vf : M W} (hc : X.calm = true) (hN : X.N.Nodup) (hi : PIV T X Xw tg iter fi) (ok : BlkOk X.N X.env.scope scope own)
    (hg : ∀ (s : Shared) (H : Hp) (C : Addr) (cl : List (Str × Addr)) (fp : List Addr), PGV T (X.blk s H scope (compEnvC scope cl C X.env) fp) sl tg g b)
    (ht : ∀ (s : Shared) (H : Hp) (C : Addr) (cl : List (Str × Addr)) (fp : List Addr), PBs T (X.blk s H scope (compEnvC scope cl C X.env) fp) X0 ifs tc)
    (hk : ∀ (s : Shared) (H : Hp) (C : Addr) (cl : List (Str × Addr)) (fp : List Addr), PV T (X.blk s H scope (compEnvC scope cl C X.env) fp) X0 kx kf)
    (he : ∀ (s : Shared) (H : Hp) (C : Addr) (cl : List (Str × Addr)) (fp : List Addr), PV T (X.blk s H scope (compEnvC scope cl C X.env) fp) X0 vx vf)
    (hsl : ∀ i ∈ sl, i ∈ own.map (·.2) := by decide) (hs : ∀ x, foldedSetIterable iter X.env x = pure x := by intro _; rfl) :
    PV T X Xw (.DictComp kx vx [⟨tg, iter, ifs, 0⟩] scope pos) (mDComp (own.map (·.2)) fi b tc kf vf) :=
  peImp (pe_dc (tt := fun σ H Q => rdG kB (gx X T) σ H X0 Q tc) (tk := fun σ H Q => rdG kW (gx X T) σ H X0 Q kf) (tv := fun σ H Q => rdG kW (gx X T) σ H X0 Q vf) hc hN hi ok (fun s H C cl fp => (hg s H C cl fp).pg) ht hk he hs) fun σ H Q h =>
    dcomp_go (fun {σ H B F S S' ts d v Q} st r e k => (hg {} H 0 [] []).go st r e fun σ' F' s c a => k σ' F' s c (a.wide hsl)) h
end
end VD

set_option Elab.async false
set_option linter.all false
set_option maxRecDepth 100000
set_option maxHeartbeats 2000000
namespace VD
open PySem PySem.Spec PyProof.Rows L2
section
variable {T : Tx} {P : Program} {w : World} {K : PySem.W.Frag} {mg : Str → Option Value} {base : Heap} {params : Arguments} {body : List Stmt} {scope : Scope} {N ps : List Str} {x qual : Str} {k : Nat} {m : MS} {f : Addr}
theorem fnK_of (Fd : ∃ fd, FunD K x qual params body scope [] [] f fd) (Sc : FnScope N ps scope)
    (hb : ∀ (kV doc pm : Value) (an : Option Addr) (cdv ct : Value) (us : List Value), us.length = ps.length → bindArgs (PySem.W.fnOf x qual params body scope .none kV doc pm an cdv ct) ⟨us, []⟩ = pure (ps.zip us))
    (hbody : ∀ (cdv : Value) (A : Around) (outer : List Env) (s : Shared) (H : Hp) (E : XK), Room k (A.deeper (envOfC qual scope s.heap.objs.size f cdv)) →
      PSL T (cxOf (L2N.CX P w) P w K mg base N qual scope f cdv A outer s H E) (fun cls d _ H => E cls d H) ps.length body m) : ∃ fd, Binds K fd ps [] ∧ FnOk P w K mg base (L2N.CX P w) (k + 1) f fd ps (spV ⟨K, mg, T⟩ (mkF N.length ps.length m)) := by
  obtain ⟨fd, F⟩ := Fd
  exact ⟨fd, F.bindsN hb, fnV F Sc hbody⟩
end
section
variable {fa : List He.Fa} {fn : List He.DefD} {K : PySem.W.Frag} {mg : Str → Option Value}
theorem Ev.cls (E : Ev fa fn K mg) (i : Nat) {x : Str} (h : fa[i]? = some (.cls x) := by rfl) : Cls K (He.ga K x) := He.cls_ok (E.c.fact i h)
theorem Ev.noat (E : Ev fa fn K mg) (i : Nat) {x f : Str} (h : fa[i]? = some (.noat x f) := by rfl) : NoAttr K (He.ga K x) f := He.noat_ok (E.c.fact i h)
theorem Ev.meth (E : Ev fa fn K mg) (i : Nat) {x f : Str} (h : fa[i]? = some (.meth x f) := by rfl) : Meth K (He.ga K x) f (He.ma K (He.ga K x) f) := He.meth_ok (E.c.fact i h)
theorem Ev.mkr (E : Ev fa fn K mg) (i : Nat) {x : Str} (h : fa[i]? = some (.mkr x) := by rfl) : Mk K (He.ga K x) (He.ma K (He.ga K x) "__init__") := He.mkr_ok (E.c.fact i h)
end
end VD

set_option Elab.async false
set_option linter.all false
set_option maxRecDepth 100000
set_option maxHeartbeats 3200000
namespace VD
open PySem PySem.Spec PyProof.Rows

/-! ### set(a list of keys) -/
abbrev KeyT := L2.Key
theorem hasK_put (acc : List KeyT) (k : KeyT) : (fun j => hasK acc j || decide (j = k)) = hasK (putK acc k) := by
  funext j
  unfold putK
  split
  · rename_i hk
    by_cases hj : j = k
    · subst hj; simp [hk]
    · simp [hj]
  · simp [hasK, eq_comm]
theorem putK_len (acc : List KeyT) (k : KeyT) : (if hasK acc k = true then acc.length else acc.length + 1) = (putK acc k).length := by
  unfold putK
  split <;> simp
theorem distK_len : ∀ {ks acc : List KeyT}, (distK acc ks).length ≤ acc.length + ks.length
  | [], _ => Nat.le_refl _
  | k :: ks, acc => by
    have h := distK_len (ks := ks) (acc := putK acc k)
    have h2 : (putK acc k).length ≤ acc.length + 1 := by
      rw [← putK_len]
      split <;> omega
    show (distK (putK acc k) ks).length ≤ _
    rw [List.length_cons]
    omega
/-- the keys met ahead of the i-th item -/
def metK (ks : List KeyT) (i : Nat) : List KeyT := distK [] (ks.take i)
theorem distK_app : ∀ {xs acc : List KeyT} {k : KeyT}, distK acc (xs ++ [k]) = putK (distK acc xs) k
  | [], _, _ => rfl
  | x :: xs, acc, k => distK_app (xs := xs) (acc := putK acc x)
theorem metK_succ {ks : List KeyT} {i : Nat} {k : KeyT} (h : ks[i]? = some k) : metK ks (i + 1) = putK (metK ks i) k := by
  unfold metK
  rw [List.take_add_one, h]
  exact distK_app
section
variable {prog : Program} {w : World} {A : Around} {R : Result → Shared → Prop} {I : Addr} {fp wr : List Addr} {G : Array GenState → Array GenState → Prop} {n : Nat} {P : Nat → Value → Prop} {St : Nat → Shared → Prop}
theorem loopK (W : WalksS prog w A.in1 I fp wr G n P St) (D : Addr) (hD : D ∉ fp) (ks : List KeyT) (hn : ks.length = n) (hb : n + 1 < scanBound)
    (hval : ∀ i v, P i v → ∃ k, ks[i]? = some k ∧ L2.RelV (L2.kV k) v) :
    ∀ (m i : Nat) (s : Shared), n - i = m → i ≤ n → St i s →
      s.heap.SetOf (L2.mixKind prog w) D (hasK (metK ks i)) (metK ks i).length →
      (∀ s', Moved (D :: wr) G s s' → s'.heap.SetOf (L2.mixKind prog w) D (hasK (metK ks n)) (metK ks n).length → R (.ok (.ret .none)) s') →
      codeAny (model prog w) A (.builtin "set.update.loop" ⟨[.ref D, .ref I], []⟩) R s := by
  have hDw : D ∉ wr := fun h => hD (W.sub _ h)
  have up : ∀ b ∈ wr, b ∈ D :: wr := fun b hb => List.mem_cons_of_mem _ hb
  intro m
  induction m with
  | zero =>
    intro i s hm hi st hS fin
    obtain rfl : i = n := by omega
    refine codeAny_builtin F.entry_set_update_loop ?_
    rw [Around.under_plainId F.plain_set_update_loop _]
    show wpAny _ A.in1 (pyNext (.ref I) >>= _) _ _ s
    refine wpAny_bind (W.done s _ _ st fun s' mv => ?_)
    show wpAny _ A.in1 (ret Value.none) _ _ s'
    obtain ⟨o, es, ep, t, ho, rest⟩ := hS
    exact wpAny_pure (fin s' (mv.mono up) ⟨o, es, ep, t, mv.heap D _ hDw ho, rest⟩)
  | succ m ih =>
    intro i s hm hi st hS fin
    have hlt : i < n := by omega
    refine codeAny_builtin F.entry_set_update_loop ?_
    rw [Around.under_plainId F.plain_set_update_loop _]
    show wpAny _ A.in1 (pyNext (.ref I) >>= _) _ _ s
    refine wpAny_bind (W.item i s _ _ hlt st fun v s' hP st' mv => ?_)
    obtain ⟨k, hk, rv⟩ := hval i v hP
    have hS1 : s'.heap.SetOf (L2.mixKind prog w) D (hasK (metK ks i)) (metK ks i).length := by
      obtain ⟨o, es, ep, tb, ho, rest⟩ := hS
      exact ⟨o, es, ep, tb, mv.heap D _ hDw ho, rest⟩
    show wpAny _ A.in1 (holding [v] (setAdd D v) >>= _) _ _ s'
    refine wpAny_bind (wpAny_holding ?_)
    unfold setAdd
    refine wpAny_holding ?_
    refine wpAny_bind ((L2.mixKind prog w).pyHash (k := k) (L2.kV_is rv) ?_)
    have hz : (metK ks i).length + 1 < scanBound := by
      have := distK_len (ks := ks.take i) (acc := [])
      have h2 : (ks.take i).length ≤ i := by rw [List.length_take]; omega
      unfold metK
      simp at this
      omega
    refine wpAny_setAddHashed_of (knd := L2.mixKind prog w) (s := { s' with toks := s'.toks + 1 }) (L2.kV_is rv) (L2.key_scan rv) hS1 hz fun h' sb hS2 => ?_
    have hS3 : h'.SetOf (L2.mixKind prog w) D (hasK (metK ks (i + 1))) (metK ks (i + 1)).length := by
      rw [metK_succ hk, ← hasK_put, ← putK_len]
      exact hS2
    refine wpAny_pure ⟨plainId_quiet F.plain_set_update_loop _, ih (i + 1) _ (by omega) hlt (W.frame _ s' _ _ st' (Nat.le_succ _) fun b hb o e => ?_) hS3 fun s2 mv2 hS4 => ?_⟩
    · rw [sb.2 b (fun z : b = D => hD (z ▸ hb))]; exact e
    · refine fin s2 (Moved.trans W.gtrans ((mv.mono up).then_heap (Nat.le_succ _) fun b o hb e => ?_) mv2) hS4
      rw [sb.2 b (fun z : b = D => hb (by rw [z]; exact List.mem_cons_self))]; exact e
end

theorem keys_at : ∀ {ks : List KeyT} {us : List Value}, L2.Vals (ks.map L2.kV) us → ∀ (i : Nat) (v : Value), us[i]? = some v → ∃ k, ks[i]? = some k ∧ L2.RelV (L2.kV k) v
  | [], _, .nil, i, v, h => by simp at h
  | k :: ks, _, .cons r t, 0, v, h => by cases h; exact ⟨k, rfl, r⟩
  | k :: ks, _, .cons r t, i + 1, v, h => keys_at t i v h
section
variable {prog : Program} {w : World} {A : Around} {E : Value → Shared → Prop} {s : Shared}
theorem call_setK {l : Addr} {items : Array Value} {ks : List KeyT} {Q : Value → Shared → Prop}
    (hh : A.handled = none) (hl : s.heap.IsList l items) (hi : L2.Vals (ks.map L2.kV) items.toList) (hz : ks.length + 1 < scanBound)
    (h : ∀ (h' : Heap) (tk : Nat), h'.SetOf (L2.mixKind prog w) s.heap.objs.size (hasK (distK [] ks)) (distK [] ks).length →
      (∀ b o, b < s.heap.objs.size → s.heap.get? b = some o → h'.get? b = some o) → Q (.ref s.heap.objs.size) { s with heap := h', toks := tk }) :
    wpAny (model prog w) A (call (.type "set") [.ref l]) Q E s := by
  have fin0 : metK ks items.size = distK [] ks := by
    have hs : ks.length = items.size := by
      have := hi.length
      simpa using this
    unfold metK
    rw [← hs, List.take_length]
  obtain ⟨c, tl, hmro⟩ := PySem.F.called_set.mro
  have g1 := PySem.F.called_set.made
  have g2 := PySem.F.called_set.sub
  refine wpAny_call (codeAny_of_tree ?_)
  show wpAny _ _ (callAny (.type "set") _) _ _ _
  refine wpAny_pure ⟨Code.quiet_builtin _ (by decide +kernel), codeAny_builtin PySem.F.entry_type_call ?_⟩
  rw [Around.under_plain (weight_type_call_type "set" [.ref l] []) rfl]
  have g3 := PySem.F.called_set.notType
  have g4 := PySem.F.called_set.canCreate
  have g5 := PySem.F.typeCall_set_1 (.ref l)
  repeat (any_goals (first | assumption | wp_step))
  refine codeAny_mono (code_set_new_1 (.ref l) (E := E) (Q₁ := fun obj s₁ => ∃ led : Bool, obj = .ref s.heap.objs.size ∧ s₁ = { s with heap := s.heap.push { cls := .type "set", dict := none, data := .set #[] 0 (.fresh 0 0 led) } }) fun led => ⟨led, rfl, rfl⟩) fun r s₁ hr => ?_
  cases r with
  | error e => exact hr
  | ok fl =>
    cases fl with
    | ret obj =>
      obtain ⟨led, rfl, rfl⟩ := hr
      have hS : (s.heap.push { cls := .type "set", dict := none, data := .set #[] 0 (.fresh 0 0 led) }).get? s.heap.objs.size = some { cls := .type "set", dict := none, data := .set #[] 0 (.fresh 0 0 led) } := Heap.get?_push_size _ rfl
      have hT : Shared.TypeIs { s with heap := s.heap.push { cls := .type "set", dict := none, data := .set #[] 0 (.fresh 0 0 led) } } (.ref s.heap.objs.size) "set" := ⟨_, hS, rfl⟩
      have g6 := PySem.F.called_set.init.lookup
      have g7 := PySem.F.called_set.init.bind (.ref s.heap.objs.size)
      repeat (any_goals (first | assumption | wp_step))
      refine codeAny_mono (codeAny_call_builtin (R := wants (fun r s₂ => r = .none ∧ ∃ h' tk, s₂ = { s with heap := h', toks := tk } ∧
          h'.SetOf (L2.mixKind prog w) s.heap.objs.size (hasK (distK [] ks)) (distK [] ks).length ∧
          (∀ b o, b < s.heap.objs.size → s.heap.get? b = some o → h'.get? b = some o)) E) PySem.F.called_set.init.plain PySem.F.entry_set_init (check_set_init_1 hT ?_)) fun r₂ s₂ hr₂ => ?_
      · obtain ⟨ol, hol, hcl, nl, hdl⟩ := hl
        obtain ⟨ocls, odict, odata, oslots⟩ := ol
        simp only at hcl hdl
        subst hcl hdl
        have hol' : (s.heap.push { cls := .type "set", dict := none, data := .set #[] 0 (.fresh 0 0 led) }).get? l = some { cls := .type "list", dict := odict, data := .seq items nl, slots := oslots } := Heap.get?_push_of_some _ hol
        have g8 := PySem.F.sub_list_set
        have g9 := PySem.F.sub_list_frozenset
        have g10 : (Value.type "list" == Value.type "dict") = false := by decide
        have hl1 : (s.heap.push { cls := .type "set", dict := none, data := .set #[] 0 (.fresh 0 0 led) }).IsList l items := ⟨_, hol', rfl, nl, rfl⟩
        unfold Builtin.«set.__init__» noKeywords Builtin.Frozenset.updateFrom
        generalize hPI : pyIter = PI
        wp_walk
        subst hPI
        refine wpAny_pyIter_list hl1 ?_
        refine wpAny_bind (wpAny_runValue ?_)
        have lt := Heap.lt_size hol
        have n1 : l ≠ (s.heap.push { cls := .type "set", dict := none, data := .set #[] 0 (.fresh 0 0 led) }).objs.size := by
          rw [Heap.size_push]; exact Nat.ne_of_lt (Nat.lt_succ_of_lt lt)
        have n2 : s.heap.objs.size ∉ [(s.heap.push { cls := .type "set", dict := none, data := .set #[] 0 (.fresh 0 0 led) }).objs.size, l] := by
          rw [Heap.size_push]
          intro z
          rcases List.mem_cons.mp z with z | z
          · exact absurd z (Nat.ne_of_lt (Nat.lt_succ_self _))
          · exact absurd (List.mem_singleton.mp z) (Nat.ne_of_gt lt)
        have hs : ks.length = items.size := by
          have := hi.length
          simpa using this
        refine loopK ((Walks.list (show A.in1.in1.in1.handled = none by simp [hh]) _ l n1 items).toS) s.heap.objs.size n2 ks hs (by omega) (fun i v hv => keys_at hi i v (by rw [Array.getElem?_toList]; exact hv)) (items.size - 0) 0 _ (by omega) (Nat.zero_le _)
          ⟨⟨_, Heap.get?_push_size _ rfl, rfl, rfl⟩, (hl1.push _)⟩ ?hS0 ?hR
        case hS0 =>
          have hg : ((s.heap.push { cls := .type "set", dict := none, data := .set #[] 0 (.fresh 0 0 led) }).push { cls := .type "list_iterator", data := .fields #[.ref l, .int 0 0] }).get? s.heap.objs.size = some { cls := .type "set", dict := none, data := .set #[] 0 (.fresh 0 0 led) } := Heap.get?_push_of_some _ hS
          exact ⟨_, #[], 0, _, hg, ⟨rfl, rfl, rfl⟩, rfl, (fun e he => by simp at he), (fun k => by simp [metK, distK, hasK]), (by decide), (by rfl), rfl⟩
        case hR =>
          intro s' mv hS'
          rw [fin0] at hS'
          obtain ⟨h', g', d', tk', os'⟩ := s'
          obtain rfl : g' = s.gens := mv.gens
          obtain rfl : d' = s.drawn := mv.drawn
          obtain rfl : os' = s.os := mv.os
          show wpAny _ _ _ _ _ _
          refine wpAny_pure ?_
          show wpAny _ _ (ret Value.none) _ _ _
          refine wpAny_pure ⟨rfl, h', tk', rfl, hS', fun b o hb e => ?_⟩
          refine mv.heap b o (fun z => ?_) (Heap.get?_push_of_some _ (Heap.get?_push_of_some _ e))
          rcases List.mem_cons.mp z with z | z
          · exact absurd z (Nat.ne_of_lt hb)
          · have z2 := List.mem_singleton.mp z
            rw [Heap.size_push] at z2
            exact absurd z2 (Nat.ne_of_lt (Nat.lt_succ_of_lt hb))
      · cases r₂ with
        | error e => exact hr₂
        | ok fl₂ =>
          cases fl₂ with
          | ret r =>
            obtain ⟨rfl, h', tk, rfl, hS', hk'⟩ := hr₂
            repeat (any_goals (first | assumption | wp_step))
            exact h _ _ hS' hk'
          | _ => exact hr₂.elim
    | _ => exact hr.elim
end
end VD

set_option Elab.async false
set_option linter.all false
set_option maxRecDepth 100000
set_option maxHeartbeats 2000000
namespace VD
open PySem PySem.Spec PyProof.Rows L2

/-! ### len(set(xs)) -/
def rSetOfK (K : PySem.W.Frag) (P : Program) (w : World) : List V → Hp → VK → Prop := fun xs H Q => ∃ (l : Addr) (ks : List Key), xs = [.ref l] ∧ SqL K H l (ks.map kV) ∧ ks.length < 4000 ∧ ∀ p, H p = none → Q (.ref p) (upd H p (SetK P w p (hasK (distK [] ks)) (distK [] ks).length))
theorem cr_setOfK {X : Cx} (hc : X.calm = true) : CallR X (.type "set") (rSetOfK X.K X.prog X.w) := by
  intro pins s σ H xs us Q I r h
  obtain ⟨l, ks, rfl, hl, hz, q⟩ := h
  cases r with
  | cons r1 rt =>
    cases rt
    cases r1
    obtain ⟨its, rv, pl, _⟩ := I.list hl
    have hz2 : ks.length + 1 < scanBound := by
      have : scanBound = 4096 := rfl
      omega
    refine call_setK (I.ok.hd hc) pl.isList (by simpa using rv) hz2 fun h' tk hS hk => ?_
    have hlt : ∀ b o, s.heap.get? b = some o → h'.get? b = some o := fun b o e => hk b o (Heap.lt_size e) e
    exact ⟨.ref s.heap.objs.size, _, I.laid (t' := tk) hlt (Nat.le_refl _) (setK_new hS), rfl, q _ (I.hok.fresh (Nat.le_refl _))⟩
def keysD : List D → Option (List Key)
  | [] => some []
  | d :: ds => match d.key, keysD ds with
    | some k, some ks => some (k :: ks)
    | _, _ => none
theorem keys_rep {G : Gx} {B : Hp} : ∀ {ds : List D} {vs : List V} {ks : List Key}, RepL G B ds vs → keysD ds = some ks → vs = ks.map kV
  | _, _, _, .nil, e => by cases e; rfl
  | d :: ds, _, ks, .cons h r, e => by
    unfold keysD at e
    split at e
    · rename_i k ks' e1 e2
      cases e
      rw [h.key e1, keys_rep r e2]; rfl
    · cases e
def mLenSetOf (f : M Opd) : M W := bindM f fun o => fun S => match o.get S with
  | some w => match w.asLr.bind keysD with
    | some ks => if ks.length < 4000 then some (.ok (.fr (.int ((distK [] ks).length : Nat))), S) else none
    | none => none
  | none => none
section
variable {T : Tx} {X : Cx} {Xw : WX} {pos : Pos}
theorem pv_lenSetOf {e : Expr} {f : M Opd} {p p2 p3 p4 : Pos} (hc : X.calm = true) (hg : Gl X "len") (hm : X.mg "len" = none) (hg2 : Gl X "set") (hm2 : X.mg "set" = none) (he : PO T X Xw e f) (hv : bootBuiltins "set" = some (.type "set") := by decide +kernel)
    (h1 : starEach [e] X.env = (false, eval e X.env) :: starEach [] X.env := by rfl) (h2 : (backTo p3 (starEach [] X.env)).any (·.1) = false := by rfl)
    (h3 : starEach [.Call (.Name "set" p2) [e] [] p3] X.env = (false, eval (.Call (.Name "set" p2) [e] [] p3) X.env) :: starEach [] X.env := by rfl) (h4 : (backTo p4 (starEach [] X.env)).any (·.1) = false := by rfl) :
    PV T X Xw (.Call (.Name "len" p) [.Call (.Name "set" p2) [e] [] p3] [] p4) (mLenSetOf f) :=
  peImp (pe_callB call_lenK hg hm boot_len (pa_cons (pe_callTy (cr_setOfK hc) hg2 hm2 hv (pa_cons he pa_nil h1) (by decide) (by decide) h1 h2) pa_nil h3) (by decide) (by decide) h3 h4) fun σ H Q h => by
    obtain ⟨B, F, R⟩ := h.start
    refine (R.step (k1 := kO)).mono fun x H1 ⟨a, ka, R1⟩ => R1.done fun S B1 F1 o S' st c e wn => ?_
    split at e
    · rename_i w ew
      split at e
      · rename_i ks ek
        split at e
        · rename_i hz
          cases e
          obtain ⟨ds, e1, e2⟩ := Option.bind_eq_some_iff.mp ek
          obtain ⟨b, vs, rfl, h1, r⟩ := (st.opd (fun z hz => List.mem_append_left _ hz) ka ew).lstr st.sub e1
          refine ⟨b, ks, rfl, by rw [← keys_rep r e2]; exact h1, hz, fun p hp => ?_⟩
          have gr : Grow H1 (upd H1 p (SetK X.prog X.w p (hasK (distK [] ks)) (distK [] ks).length)) := .new hp
          exact ⟨p, _, _, rfl, upd_same, (wn.new (st.grow gr) (c.trans (.grow gr))).int (st.grow gr).sub⟩
        · cases e
      · cases e
    · cases e
end
/-! ### isinstance of an own class, of what is none of its instances; the same class -/
end VD

set_option Elab.async false
set_option linter.all false
set_option maxRecDepth 100000
set_option maxHeartbeats 2000000
namespace VD
open PySem PySem.Spec PyProof.Rows L2

/-! ### try with several clauses `except x as n` -/
/-- behind a suite its name is gone -/
def behind (i : Nat) (Dn : Ends) : Ends where
  nx := fun τ H => Dn.nx (τ.set i none) H
  rt := Dn.rt
  bk := fun τ H => Dn.bk (τ.set i none) H
  ct := fun τ H => Dn.ct (τ.set i none) H
abbrev Suite : Type := Addr → Value → Option Addr → TS
def wAsL (K : PySem.W.Frag) (i : Nat) (Wout : WX) (Dn : Ends) : List (Value × Suite) → WX
  | [] => Wout
  | q :: r => fun cls d τ H => ∃ b, PySem.W.exmOne K cls q.1 = some b ∧ (b = true → ∀ a, H a = none → q.2 a cls d (behind i Dn) (τ.set i (some (.ref a))) H) ∧ (b = false → wAsL K i Wout Dn r cls d τ H)
/-- a suite, with what it knows of the exception -/
def SuiteOk (X : Cx) (sts : List Stmt) (ts : Suite) : Prop :=
  ∀ (a : Addr) (o : Obj) (cls : Value) (d : Option Addr) (pn : List (Addr × Obj)), L2N.Zn cls d o → (∃ vs, o.data = .fields vs) → PSs (X.suite a ((a, o) :: pn)) sts (ts a cls d)
inductive AsOk (X : Cx) (n : Str) : List ExceptHandler → List (Value × Suite) → Prop
  | nil : AsOk X n [] []
  | cons {x : Str} {c : Value} {ts : Suite} {s0 : Stmt} {sts : List Stmt} {p p' : Pos} {hs : List ExceptHandler} {l : List (Value × Suite)} : Names X x c → SuiteOk X (s0 :: sts) ts → AsOk X n hs l →
      AsOk X n (.ExceptHandler (some (.Name x p)) (some n) (s0 :: sts) p' :: hs) ((c, ts) :: l)
/-- the exception at a is on the ground, the state sI stands without it -/
structure Caught (X : Cx) (pins : List (Addr × Obj)) (σ : St) (H : Hp) (cls : Value) (d : Option Addr) (a : Addr) (B : Heap) (sI s : Shared) : Prop where
  inv : Inv X pins σ H sI
  nb : ∀ b o, sI.heap.get? b = some o → b ∉ frs X.stack → B.get? b = some o
  up : sI.heap.UpToSlots s.heap
  os : s.os = sI.os
  ag : AllBare s.gens
  fl : HandSPX.FlyingZ B (X.env :: X.outer) a (L2N.Zn cls d) s.heap
  na : H a = none
section
variable {X : Cx} {pins : List (Addr × Obj)} {σ : St} {H : Hp} {cls : Value} {d : Option Addr} {a : Addr} {B : Heap} {sI s : Shared} {n : Str} {i : Nat} {Wout : WX} {Dn : Ends}
theorem Caught.hot (C : Caught X pins σ H cls d a B sI s) (hs : X.stack = X.env :: X.outer) (hf : X.env.frame = some X.env.locals) :
    ∃ o vs, s.heap.get? a = some o ∧ L2N.Zn cls d o ∧ o.data = .fields vs ∧ Inv (X.suite a ((a, o) :: (X.pn ++ pins))) [] σ H s := by
  obtain ⟨o, vs, e, z, hd⟩ := C.fl.there
  have J := C.inv.landed C.nb C.fl.1 C.up C.os C.ag
  have nfr : a ∉ frs (X.env :: X.outer) := fun hm => by
    obtain ⟨_, o', e', hnf⟩ := C.fl.2.2.1.mem hm
    rw [e] at e'
    cases e'
    exact hnf vs hd
  refine ⟨o, vs, e, z, hd, J.suite e hd C.na (fun q => nfr (List.mem_filterMap.mpr ⟨X.env, List.mem_cons_self, by rw [hf, q]⟩)) fun hm => ?_⟩
  obtain ⟨e1, h1, h2⟩ := List.mem_filterMap.mp hm
  exact nfr (List.mem_filterMap.mpr ⟨e1, List.mem_cons_of_mem _ h1, h2⟩)
theorem Caught.again (C : Caught X pins σ H cls d a B sI s) {h' : Heap} (fl : HandSPX.FlyingZ B (X.env :: X.outer) a (L2N.Zn cls d) h') (up : s.heap.UpToSlots h') : Caught X pins σ H cls d a B sI { s with heap := h' } :=
  ⟨C.inv, C.nb, C.up.trans up, C.os, C.ag, fl, C.na⟩
theorem handle_as (hs : X.stack = X.env :: X.outer) (hf : X.env.frame = some X.env.locals) (hN : X.N.Nodup) (hi : X.N[i]? = some n) (hln : X.env.kindOf n = some .local) (tk : L2N.Takes X Wout) (C : Caught X pins σ H cls d a B sI s) :
    ∀ {hds : List ExceptHandler} {l : List (Value × Suite)}, AsOk X n hds l → wAsL X.K i Wout Dn l cls d σ H → wpAny (model X.prog X.w) X.A (handleBy (.ref a) X.env hds) (SP X pins Dn) X.xe s := by
  have ok := C.inv.ok
  obtain ⟨o, vs, he, hz, hd, S⟩ := C.hot hs hf
  intro hds l hk
  induction hk with
  | nil =>
    intro w
    refine wpAny_handleBy_nil ?_
    obtain ⟨_, _, _, o1, vs1, T, _, _, he1, _, hd1, h1, _⟩ := C.fl
    unfold PySem.passOn
    refine wpAny_bind (wpAny_field he1 hd1 h1 ?_)
    rw [if_neg (show ¬ ((Value.ref T == Value.none) = true) from by simp), hf]
    have fin : wpAny (model X.prog X.w) X.A (setFlight (.ref a) (some X.env.locals)) (fun _ s4 => wpAny (model X.prog X.w) X.A (throw (.ref a) : Sem Flow) (SP X pins Dn) X.xe s4) X.xe s :=
      HandSPX.setFlight_upZ C.fl fun h4 hh4 up4 => wpAny_throw (tk _ _ ⟨a, B, sI, pins, σ, H, cls, d, rfl, C.inv, C.nb, C.up.trans up4, .inr (.inr (by rw [hs]; exact hh4)), C.na, C.os, C.ag, w⟩)
    first
      | exact wpAny_bind (wpAny_pure (wpAny_bind fin))
      | exact wpAny_bind fin
  | @cons x c ts s0 sts p p' hds2 l2 hc hsu r ih =>
    intro w
    obtain ⟨b, hb1, hyes, hno⟩ := w
    refine wpAny_handleBy_cons (codeAny_handlers_test ?_) (by intro q; cases q)
    have LT : PySem.W.Looks (model X.prog X.w) s.heap (typeOf (.ref a)) cls := fun A Q E s k q => wpAny_typeOf_ref (k _ _ he) (by rw [hz.1]; exact q)
    have LM := PySem.W.exm_one (M := model X.prog X.w) S.kIn LT hb1
    have test : ∀ {Q E : Value → Shared → Prop}, Q c s → wpAny (model X.prog X.w) (X.A.mark (some (.ref a))) (eval (.Name x p) X.env) Q E s := fun {Q E} q => by
      obtain ⟨hg, hdbg, hm⟩ := hc
      rcases hm with hm | ⟨hm, hv, hnn⟩
      · exact ld_glob (X := X.suite a ((a, o) :: (X.pn ++ pins))) S hg hm q hdbg
      · exact ld_blt (X := X.suite a ((a, o) :: (X.pn ++ pins))) S hg hm hv q hnn hdbg
    refine test (LM.here ?_)
    cases b with
    | false => exact ih (hno rfl)
    | true =>
      refine codeAny_handlers_suite_as (HandSPX.lands_againZ C.fl fun h4 fl4 up4 => ?_)
      obtain ⟨o4, vs4, he4, hz4, hd4, S4⟩ := (C.again fl4 up4).hot hs hf
      refine store_ok (X := X.suite a ((a, o4) :: (X.pn ++ pins))) (v := .ref a) S4 hN hi (.inl hln) rfl (fun s5 S5 => ?_) (.inr hln)
      refine wpAny_mono ((hsu a o4 cls d (X.pn ++ pins) hz4 ⟨vs4, hd4⟩).run [] s5 _ H _ S5 (hyes rfl a C.na)) (fun f s6 hsp => ?_) (fun _ _ z => False.elim z)
      have out : ∀ {σ6 : St} {H6 : Hp} {Q : Shared → Prop}, Inv (X.suite a ((a, o4) :: (X.pn ++ pins))) [] σ6 H6 s6 → (∀ s7, Inv X pins (σ6.set i none) H6 s7 → Q s7) →
          wpAny (model X.prog X.w) X.A (do bindName X.env n .none; unbindBehindTheSuite X.env n p') (fun _ s7 => Q s7) X.xe s6 := fun {σ6 H6 Q} S6 hq => gone_ok (S6.unsuite ok) hN hi hln hq
      cases f with
      | next => exact let ⟨σ6, H6, S6, q6⟩ := hsp; out S6 fun s7 J7 => ⟨_, _, J7, q6⟩
      | brk => exact let ⟨σ6, H6, S6, q6⟩ := hsp; out S6 fun s7 J7 => ⟨_, _, J7, q6⟩
      | cont => exact let ⟨σ6, H6, S6, q6⟩ := hsp; out S6 fun s7 J7 => ⟨_, _, J7, q6⟩
      | ret u => exact let ⟨v6, σ6, H6, S6, r6, q6⟩ := hsp; out S6 fun s7 J7 => ⟨_, _, _, J7, r6, q6⟩
theorem ps_try_asL {body : List Stmt} {h0 : ExceptHandler} {hds : List ExceptHandler} {l : List (Value × Suite)} {pos : Pos} {tb : WX → TS} (hs : X.stack = X.env :: X.outer) (hf : X.env.frame = some X.env.locals) (hN : X.N.Nodup) (hi : X.N[i]? = some n) (hln : X.env.kindOf n = some .local) (tk : L2N.Takes X Wout)
    (hb : ∀ (W : WX) (pn : List (Addr × Obj)) (xe : Value → Shared → Prop), L2N.Takes (X.tr pn xe) W → PassesOwn (model X.prog X.w) X.A X.env xe → PSs (X.tr pn xe) body (tb W)) (hh : AsOk X n (h0 :: hds) l) :
    PS X (.Try body (h0 :: hds) [] [] pos) (fun Dn σ H => tb (wAsL X.K i Wout Dn l) Dn σ H) := by
  refine ⟨fun pins s σ H Dn I h => ?_⟩
  have ok := I.ok
  have hfr : X.A.frames = some (X.env :: X.outer) := by rw [ok.frames, hs]
  let xe' : Value → Shared → Prop := fun e s1 => wpAny (model X.prog X.w) X.A (noteFrame e X.env) (fun _ s2 => wpAny (model X.prog X.w) X.A (setFlight e none) (fun _ s3 => wpAny (model X.prog X.w) X.A (handleBy e X.env (h0 :: hds)) (SP X pins Dn) X.xe s3) X.xe s2) X.xe s1
  refine wpAny_Try_except (wpAny_mono ((hb (wAsL X.K i Wout Dn l) (X.pn ++ pins) xe' (fun u s' xx => ?_) PassesOwn.looking).run [] s σ H Dn (I.toTry _) h) (fun f s1 hsp => ?_) fun e s1 he => he)
  · obtain ⟨a, B, sI, pins', σ', H', cls, d, rfl, J', nb, up, sky, na, os, ag, w⟩ := xx
    have sky2 : Sky B (X.env :: X.outer) a (L2N.Zn cls d) X.env.locals s'.heap := by rw [← hs]; exact sky
    exact L2N.Sky.land L2N.Zn.steady hfr hf sky2 fun h3 fl3 up3 => handle_as (s := { s' with heap := h3 }) hs hf hN hi hln tk ⟨J'.ofTry ok, nb, up.trans up3, os, ag, fl3, na⟩ hh w
  · cases f with
    | next => exact let ⟨σ', H', J', q⟩ := hsp; wpAny_execs_nil ⟨σ', H', J'.ofTry ok, q⟩
    | brk => exact let ⟨σ', H', J', q⟩ := hsp; ⟨σ', H', J'.ofTry ok, q⟩
    | cont => exact let ⟨σ', H', J', q⟩ := hsp; ⟨σ', H', J'.ofTry ok, q⟩
    | ret u => exact let ⟨v, σ', H', J', r, q⟩ := hsp; ⟨v, σ', H', J'.ofTry ok, r, q⟩
end
end VD

set_option Elab.async false
set_option linter.all false
set_option maxRecDepth 100000
set_option maxHeartbeats 2000000
namespace VD
open PySem PySem.Spec PyProof.Rows L2

/-! ### the end of a list's walk where an exception is handled -/
section
variable {prog : Program} {w : World} {A : Around} {E : Value → Shared → Prop} {s : Shared}
theorem list_end_hot {it l x1 : Addr} {i : Nat} {items : Array Value} {Q : Option Value → Shared → Prop} (hot : HotX.HotAt A x1 s.heap) (hne : x1 ≠ it)
    (hit : s.heap.IsListIter it l i) (hl : s.heap.IsList l items) (hx : items[i]? = none) (hQ : ∀ h', (∀ b o, b ≠ it → s.heap.get? b = some o → h'.get? b = some o) → Q none { s with heap := h' }) : wpAny (model prog w) A (pyNext (.ref it)) Q E s := by
  obtain ⟨hh, o1, vs1, h1, d1, c1⟩ := hot
  obtain ⟨oi, ho, hc, hd⟩ := id hit
  obtain ⟨ol, hol, _, nl, hdl⟩ := hl
  unfold pyNext
  refine wpAny_bind (wpAny_attempt (wpAny_callSpecial?_slot (name := Str.ofString "__next__") hit.typeIs slot_listiter_next (wpAny_call_entry slot_listiter_next hit.typeIs entry_listiter_next ?_ (args_listiter_next _))))
  show wpAny _ _ (field (.ref it) 0 >>= _) _ _ s
  refine wpAny_bind (wpAny_field ho hd (x := .ref l) rfl ?_)
  show wpAny _ _ (if (Value.ref l == Value.none) = true then _ else _) _ _ s
  rw [if_neg (show ¬ ((Value.ref l == Value.none) = true) from Bool.false_ne_true)]
  show wpAny _ _ (field (.ref it) 1 >>= _) _ _ s
  refine wpAny_bind (wpAny_field ho hd (x := .int i 0) rfl ?_)
  show wpAny _ _ (seqItems? (.ref l) >>= _) _ _ s
  refine wpAny_bind (wpAny_seqItems hol hdl ?_)
  simp only [Int.toNat_natCast, hx]
  refine wpAny_bind (wpAny_rule (wpAny_bind (wpAny_setField ho hd (by simp) ?_)))
  show wpAny _ _ (newExc (.type "StopIteration") [] >>= _) _ _ _
  refine wpAny_bind ?_
  simp only [newExc, newTuple]
  refine wpAny_bind (wpAny_newObj_type ?_ (by size_fits))
  refine wpAny_bind (m := firstArgMember _ _) (wpAny_of_eq (a := Value.none) (by first | rfl | (simp only [firstArgMember]; rfl)) ?_)
  refine wpAny_newObj_type ?_ (by size_fits)
  have g1 := (Heap.get?_update_other (h := s.heap) (a := it) (b := x1) (Obj.mapFields (·.setIfInBounds 0 Value.none)) (Ne.symm hne)).trans h1
  refine HotX.raiseNew_hot ⟨hh, o1, vs1, Heap.get?_push_of_some _ (Heap.get?_push_of_some _ g1), d1, c1⟩ (Nat.ne_of_lt (Heap.lt_size (Heap.get?_push_of_some _ g1))) (Heap.get?_push_size _ rfl) rfl (by first | (simp; done) | (simp; omega) | (simp only [Array.size_append]; simp; omega)) ?_
  refine wpAny_bind (wpAny_isInstance (T := "StopIteration") (b := true) ⟨_, Heap.get?_update_self _ (Heap.get?_push_size _ rfl) rfl, rfl⟩ isSubtype_stop ?_)
  refine wpAny_pure (hQ _ fun b o nb e => ?_)
  have g2 := (Heap.get?_update_other (h := s.heap) (a := it) (b := b) (Obj.mapFields (·.setIfInBounds 0 Value.none)) (Ne.symm nb)).trans e
  rw [Heap.get?_update_other _ _ (Nat.ne_of_gt (Heap.lt_size (Heap.get?_push_of_some _ g2)))]
  exact Heap.get?_push_of_some _ (Heap.get?_push_of_some _ g2)
end

/-! ### sum of a list of ints there -/
section
variable {prog : Program} {w : World} {A : Around} {E : Value → Shared → Prop} {s : Shared}
theorem walks_hot {x1 : Addr} {o1 : Obj} {vs1 : Array Value} (hh : A.handled = some (.ref x1)) (d1 : o1.data = .fields vs1) (c1 : vs1[2]? = some .none) (I ax : Addr) (hne : ax ≠ I) (hx : x1 ≠ I) (items : Array Value) :
    Walks prog w A I [I, ax, x1] [I] items.size (fun i v => items[i]? = some v) (fun i h => h.IsListIter I ax i ∧ h.IsList ax items ∧ h.get? x1 = some o1) where
  sub := fun b hb => by simp at hb; simp [hb]
  frame := fun _ _ _ st hk => ⟨st.1.at fun o e => hk I (by simp) o e, st.2.1.at fun o e => hk ax (by simp) o e, hk x1 (by simp) _ st.2.2⟩
  item := fun i s Q E hi st hQ => by
    refine wpAny_pyNext_list_item st.1 st.2.1 (x := items[i]) (by simp [hi]) fun h' hit' hs' => ?_
    exact hQ _ h' s.toks (by simp [hi]) ⟨hit', st.2.1.extBut hs'.extBut hne, hs'.extBut x1 _ hx st.2.2⟩ fun b o hb e => hs'.extBut b o (fun h => hb (by simp [h])) e
  done := fun s Q E st hQ => list_end_hot ⟨hh, o1, vs1, st.2.2, d1, c1⟩ hx st.1 st.2.1 (by simp) fun h' he' => hQ h' s.toks fun b o hb e => he' b o (fun h => hb (by simp [h])) e
  self := fun _ _ _ _ st hQ => wpAny_pyIter_listiter st.1 hQ
theorem sum_hot {l x1 : Addr} {its : List Value} {ns : List Int} {Q : Value → Shared → Prop} (hot : HotX.HotAt A x1 s.heap) (hl : s.heap.IsList l its.toArray) (hi : IntsAre its ns)
    (h : ∀ h' tk t', (∀ b o, s.heap.get? b = some o → h'.get? b = some o) → Q (.int ns.sum t') { s with heap := h', toks := tk }) : wpAny (model prog w) A (call (.builtin "sum") [.ref l]) Q E s := by
  obtain ⟨hh, o1, vs1, h1, d1, c1⟩ := hot
  obtain ⟨xs, e⟩ := hi.allInts.items
  have hn : numsOf (intItems xs).toList = ns := by rw [← e]; exact hi.numsOf
  rw [nums_intItems] at hn
  rw [e] at hl
  obtain ⟨ol, hol, q2, q3, q4⟩ := id hl
  have lx : x1 < s.heap.objs.size := Heap.lt_size h1
  have ll : l < s.heap.objs.size := Heap.lt_size hol
  refine call_sum_walkG (wpAny_pyIter_list hl ?_)
  have kp : ∀ b o, s.heap.get? b = some o → (s.heap.push { cls := .type "list_iterator", data := .fields #[.ref l, .int 0 0] }).get? b = some o := fun b o q => Heap.get?_push_of_some _ q
  refine ⟨s.heap.objs.size, [s.heap.objs.size, l, x1], [s.heap.objs.size], _, _, _, numAt xs, rfl, walks_hot (A := A.in1) hh d1 c1 _ l (Nat.ne_of_lt ll) (Nat.ne_of_lt lx) (intItems xs), ⟨⟨_, Heap.get?_push_size _ rfl, rfl, rfl⟩, hl.at fun o q => kp _ o q, kp _ _ h1⟩, ?_, (fun _ _ => intItems_at), fun h' tk t' hk => ?_⟩
  · intro b hb
    simp only [List.mem_cons, List.not_mem_nil, or_false] at hb
    show b < (s.heap.push _).objs.size
    rw [Heap.size_push]
    rcases hb with rfl | rfl | rfl
    · exact Nat.lt_succ_self _
    · exact Nat.lt_succ_of_lt ll
    · exact Nat.lt_succ_of_lt lx
  · have hz := h h' tk t' fun b o q => hk b o (fun z => by
      have z : b = s.heap.objs.size := by simpa using z
      exact absurd (Heap.lt_size q) (by rw [z]; exact Nat.lt_irrefl _)) (kp b o q)
    have e2 : preSum (numAt xs) (intItems xs).size = ns.sum := by
      rw [preSum_eq, List.take_of_length_le (by simp [intItems]), hn]
    rw [e2]
    exact hz
end
/-- the exception that is handled is pinned, its context None -/
def HotP (X : Cx) (p : Addr × Obj) : Prop := L2H.Hot1 X.A p ∧ p ∈ X.pn
theorem HotP.at_ {X : Cx} {p : Addr × Obj} (c : HotP X p) {pins : List (Addr × Obj)} {σ : St} {H : Hp} {s : Shared} (I : Inv X pins σ H s) : HotX.HotAt X.A p.1 s.heap := by
  obtain ⟨⟨hh, v1, e1, c1⟩, hp⟩ := c
  exact ⟨hh, p.2, v1, (I.pin p (List.mem_append_left _ hp)).1, e1, c1⟩
theorem cr_sumH {X : Cx} {p : Addr × Obj} (c : HotP X p) : CallR X (.builtin "sum") (rSum X.K) := by
  intro pins s σ H vs us Q I r h
  obtain ⟨a, ns, rfl, hs, q⟩ := h
  obtain ⟨its, rv, hl, _⟩ := I.list hs
  rw [Vals.ref1 r]
  exact sum_hot (c.at_ I) hl.isList rv.ints fun h' tk t' hk => ⟨.int _, H, I.kept hk, ⟨_, rfl⟩, q⟩
/-! ### a list comprehension over a list there -/
/-- the reading: the list stays as it is; W by the turn -/
def tLcH (K : PySem.W.Frag) (tl : TE) (g : TG) (te : TE) (vs : List Nat) : TE := fun σ H Q => tl σ H fun x H1 => ∃ a xs, x = .ref a ∧ SqL K H1 a xs ∧ ∀ D, H1 D = none → ∃ W : Nat → Hp → Prop, W 0 (upd H1 D (.lst [])) ∧ (∀ i H2, W i H2 → SqL K H2 a xs) ∧ (∀ H2, W xs.length H2 → Q (.ref D) H2) ∧
  ∀ i x H2, xs[i]? = some x → W i H2 → g x (wipe σ vs) H2 fun σ2 H3 => wipe σ2 vs = wipe σ vs ∧ te σ2 H3 fun y H4 => ∃ acc, H4 D = some (.lst acc) ∧ acc.length < sizeLine ∧ W (i + 1) (upd H4 D (.lst (acc ++ [y])))
section
variable {X : Cx}
theorem pe_lcH {p : Addr × Obj} {elt tg iter : Expr} {scope : Scope} {own : List (Str × Nat)} {pos : Pos} {tl : TE} {g : TG} {te : TE} (c : HotP X p) (hN : X.N.Nodup) (hi : PE X iter tl) (ok : BlkOk X.N X.env.scope scope own)
    (hg : ∀ (s : Shared) (H : Hp) (C : Addr) (cl : List (Str × Addr)) (fp : List Addr), PG (X.blk s H scope (compEnvC scope cl C X.env) fp) tg g) (he : ∀ (s : Shared) (H : Hp) (C : Addr) (cl : List (Str × Addr)) (fp : List Addr), PE (X.blk s H scope (compEnvC scope cl C X.env) fp) elt te)
    (hs : ∀ x, foldedSetIterable iter X.env x = pure x := by intro _; rfl) : PE X (.ListComp elt [⟨tg, iter, [], 0⟩] scope pos) (tLcH X.K tl g te (own.map (·.2))) := by
  refine ⟨fun pins s σ H Q I h => ?_⟩
  rw [eval_ListComp]
  have hfree : ∀ y ∈ scope.names, y.2 = .free → ∃ c, X.env.cells.lookup y.1 = some c := fun y hy e => (ok.free y hy e).elim (fun k => I.ok.has _ (.inl k)) fun k => I.ok.has _ (.inr k)
  refine wpAny_comprehension_free (use := none) rfl hs (closure_ok hfree) ok.kind (fun y hy e => by rw [ok.uniq y hy, e]) (thn (hi.run pins s σ H _ I h) fun xv s1 hx => ?_)
  obtain ⟨x, H1, I1, r1, a, xs, rfl, hq, h1⟩ := hx
  obtain rfl : xv = Value.ref a := r1
  obtain ⟨its, rv, pl, hz⟩ := I1.list hq
  refine wpAny_pyIter_list pl.isList ?_
  generalize hit : s1.heap.objs.size = it
  generalize hs2 : ({ s1 with heap := s1.heap.push { cls := .type "list_iterator", data := .fields #[.ref a, .int 0 0] } } : Shared) = s2
  have h2 : s2.heap = s1.heap.push { cls := .type "list_iterator", data := .fields #[.ref a, .int 0 0] } := by rw [← hs2]
  have I2 : Inv X pins σ H1 s2 := by
    rw [← hs2]
    exact I1.kept (t' := s1.toks) fun b o e => Heap.get?_push_of_some _ e
  have st2 : s2.heap.IsListIter it a 0 := by
    rw [h2, ← hit]
    exact ⟨_, Heap.get?_push_size _ rfl, rfl, rfl⟩
  have f2 : FpOk X pins H1 it := I1.fpOk (Nat.le_of_eq hit) (I1.hok.fresh (Nat.le_of_eq hit))
  have lt2 : it < s2.heap.objs.size := by rw [h2, Heap.size_push, hit]; exact Nat.lt_succ_self _
  refine wpAny_newObj_type (newEnv_comp ?_) (by show 0 ≤ sizeLine; decide)
  generalize hD : s2.heap.objs.size = D
  have hDn : H1 D = none := I2.hok.fresh (Nat.le_of_eq hD)
  obtain ⟨W, w0, wq, wend, step⟩ := h1 D hDn
  generalize hs3 : ({ s2 with heap := s2.heap.push { cls := .type "list", data := .seq ([] : List Value).toArray } } : Shared) = s3
  have h3 : s3.heap = s2.heap.push { cls := .type "list", data := .seq ([] : List Value).toArray } := by rw [← hs3]
  have I3 : Inv X pins σ (upd H1 D (.lst [])) s3 := by
    rw [← hs3]
    refine I2.laid (t' := s2.toks) (fun b o e => Heap.get?_push_of_some _ e) (Nat.le_of_eq hD) ⟨Nat.zero_le _, [], 0, .nil, ?_⟩
    rw [← hD]
    exact Heap.get?_push_size _ rfl
  have nD : it ≠ D := by rw [← hD]; exact Nat.ne_of_lt lt2
  have f3 : ∀ b ∈ [it], FpOk X pins (upd H1 D (.lst [])) b ∧ b < s3.heap.objs.size := fun b hb => by
    obtain rfl : b = it := by simpa using hb
    exact ⟨⟨by rw [upd_ne nD]; exact f2.1, f2.2⟩, by rw [h3, Heap.size_push]; exact Nat.lt_succ_of_lt lt2⟩
  have st3 : s3.heap.IsListIter it a 0 := st2.at fun o e => by rw [h3]; exact Heap.get?_push_of_some _ e
  have I4 := block_start I3 ok hN f3
  have hpX := I3.pin p (List.mem_append_left _ c.2)
  have pg := hg s3 (upd H1 D (.lst [])) s3.heap.objs.size (cellsFrom (s3.heap.objs.size + 1) scope.names (cloFrom X.env.cells scope.names [])) [it]
  have pe := he s3 (upd H1 D (.lst [])) s3.heap.objs.size (cellsFrom (s3.heap.objs.size + 1) scope.names (cloFrom X.env.cells scope.names [])) [it]
  show codeAny _ _ (.compStart (.ListComp elt [⟨tg, iter, [], 0⟩] scope pos) 0 (.ref it) (.ref D) (compEnvC scope (cellsFrom (s3.heap.objs.size + 1) scope.names (cloFrom X.env.cells scope.names [])) s3.heap.objs.size X.env)) (compPost (model X.prog X.w) X.A X.xe none _ (.ref D) s3.heap.objs.size) { s3 with heap := pushCells (s3.heap.push { cls := .type "dict", data := .dict #[] }) scope.names }
  generalize hce : compEnvC scope (cellsFrom (s3.heap.objs.size + 1) scope.names (cloFrom X.env.cells scope.names [])) s3.heap.objs.size X.env = ce at I4 pg pe ⊢
  have cL : ce.locals = s3.heap.objs.size := by subst hce; rfl
  generalize hH3 : upd H1 D (.lst []) = H3 at I3 I4 pg pe w0 f3 hpX
  generalize hs4 : ({ s3 with heap := pushCells (s3.heap.push { cls := .type "dict", data := .dict #[] }) scope.names } : Shared) = s4 at I4 ⊢
  have k4 : ∀ b o, s3.heap.get? b = some o → s4.heap.get? b = some o := fun b o e => by rw [← hs4]; exact pushCells_keeps _ _ _ _ (Heap.get?_push_of_some _ e)
  have st4 : s4.heap.IsListIter it a 0 := st3.at fun o e => k4 _ _ e
  -- the handled exception stays pinned
  have J4 : Inv (X.blk s3 H3 scope ce [it]) [p] (wipe σ (own.map (·.2))) H3 s4 := I4.pins_of fun q hq => by
    obtain rfl : q = p := by simpa using hq
    refine ⟨k4 _ _ hpX.1, hpX.2.1, ?_, fun z => ?_, hpX.2.2.2.2⟩
    · show q.1 ≠ ce.locals
      rw [cL]
      exact Nat.ne_of_lt (Heap.lt_size hpX.1)
    · exact (List.mem_cons.mp (I3.stkSub q.1 z)).elim hpX.2.2.1 hpX.2.2.2.1
  have pit : p.1 ≠ it := f2.2.2.2.2.2 p (List.mem_append_left _ c.2)
  have stat : ∀ {σ' : St} {H' : Hp} {s' : Shared}, Inv (X.blk s3 H3 scope ce [it]) [p] σ' H' s' → H' it = none → ∀ b ∈ [it], FpOk (X.blk s3 H3 scope ce [it]) [p] H' b := fun {σ' H' s'} I' hn b hb => by
    obtain rfl : b = it := by simpa using hb
    refine ⟨hn, (I'.ok.exf b hb).1, I'.ok.exfs b hb, .inl hb, fun x c e => (I'.ok.exf b hb).2 x c e, fun q hq => ?_⟩
    obtain rfl : q = p := by simpa using hq
    exact pit
  obtain ⟨⟨hh, v1, e1, c1⟩, hp⟩ := c
  have loop : codeAny (model X.prog X.w) X.A (.compLoop (.ListComp elt [⟨tg, iter, [], 0⟩] scope pos) 0 (.ref it) (.ref D) ce) (compPost (model X.prog X.w) X.A X.xe none (EP X pins σ Q) (.ref D) s3.heap.objs.size) s4 := by
    refine compLoop_any (fun n s' => ∃ i H', n = xs.length - i ∧ i ≤ xs.length ∧ Inv (X.blk s3 H3 scope ce [it]) [p] (wipe σ (own.map (·.2))) H' s' ∧ s'.heap.IsListIter it a i ∧ H' it = none ∧ W i H') ?_ xs.length ⟨0, H3, by simp, Nat.zero_le _, J4, st4, (f3 it (by simp)).1.1, w0⟩
    rintro n s5 ⟨i, H5, rfl, hil, I5, st5, n5, w5⟩
    obtain ⟨its5, rv5, pl5, _⟩ := I5.list (wq i H5 w5)
    have fp5 := stat I5 n5 it (by simp)
    by_cases hlt : i < xs.length
    · have hx : xs[i]? = some xs[i] := List.getElem?_eq_getElem hlt
      obtain ⟨u, hu, ru⟩ := rv5.get hx
      refine wpAny_pyNext_list_item st5 pl5.isList (x := u) (by simpa using hu) fun h' st' sb => ?_
      have I6 : Inv (X.blk s3 H3 scope ce [it]) [p] (wipe σ (own.map (·.2))) H5 { s5 with heap := h' } := I5.turned (t' := s5.toks) (fun b o hb e => (sb.2 b hb).trans e) fp5.1 fp5.2.1 fp5.2.2.2.1 fp5.2.2.2.2.1 fp5.2.2.2.2.2
      obtain ⟨oi, e, ci, di⟩ := id st'
      refine go_of (s := { s5 with heap := h' }) e ci di (by decide) ?_
      have I7 := I6.pinned (stat I6 n5) (fun b hb => ⟨oi, by rw [show b = it by simpa using hb]; exact e, fun v z => by rw [di] at z; cases z⟩)
      refine thnF (pg.run _ _ _ H5 xs[i] u _ I7 ru (step i xs[i] H5 hx w5)) fun _ s8 ⟨σ8, H8, I8, hw8, q8⟩ => ?_
      refine wpAny_pure ?_
      rw [if_pos rfl]
      refine thnF (pe.run _ s8 σ8 H8 _ I8 q8) fun z s10 ⟨yv, H10, I10, r10, acc, hD10, hz10, nx⟩ => ?_
      refine app_ok (X := X.blk s3 H3 scope ce [it]) I10 hD10 hz10 r10 fun s11 I11 => ?_
      have hm : (it, oi) ∈ pinsAt [it] h' := mem_pinsAt (by simp) e
      obtain ⟨y1, y2, _⟩ := I11.pin (it, oi) (List.mem_append_right _ (List.mem_append_right _ hm))
      have hl : (wipe σ (own.map (·.2))).length = σ8.length := by rw [← hw8, wipe_length]
      refine ⟨xs.length - (i + 1), by omega, i + 1, _, rfl, hlt, (I11.unpinned (pins := [p])).weak hl (fun j v e => ?_), st'.at fun o eo => ?_, y2, nx⟩
      · rw [← hw8] at e
        exact (wipe_some e).1
      · rw [e] at eo
        cases eo
        exact y1
    · have hi' : i = xs.length := by omega
      subst hi'
      have hot : HotX.HotAt X.A p.1 s5.heap := ⟨hh, p.2, v1, (I5.pin p (List.mem_append_right _ (by simp))).1, e1, c1⟩
      refine list_end_hot hot pit st5 pl5.isList (by have := rv5.length; simp; omega) fun h' kb => ?_
      have I6 : Inv (X.blk s3 H3 scope ce [it]) [p] (wipe σ (own.map (·.2))) H5 { s5 with heap := h' } := I5.turned (t' := s5.toks) kb fp5.1 fp5.2.1 fp5.2.2.2.1 fp5.2.2.2.2.1 fp5.2.2.2.2.2
      have I7 : Inv X pins σ H5 { s5 with heap := h' } := I3.call' (ch := [it]) I6.os I6.base I6.hok I6.bare fun b hb => ⟨(f3 b hb).1.2.2.2.1, (f3 b hb).1.2.1, (f3 b hb).1.2.2.2.2.1, (f3 b hb).1.2.2.2.2.2⟩
      have nC : H5 s3.heap.objs.size = none := by
        have z : H5 ce.locals = none := I6.free
        rw [cL] at z
        exact z
      obtain ⟨m, hn, _⟩ := I6.loc
      have hn : h'.Ns ce.locals m := hn
      rw [cL] at hn
      obtain ⟨g0, g1, g2, g3, g4, g5⟩ := I3.fpOk (Nat.le_refl _) nC
      exact ⟨m, hn, fun h'' sb => ⟨.ref D, H5, I7.turned (t' := s5.toks) (fun b o hb e => (sb.2 b hb).trans e) g0 g1 g3 g4 g5, rfl, wend H5 w5⟩⟩
  exact codeAny_compStart_list loop (wpAny_pyIter_listiter st4 loop)
end
end VD

set_option Elab.async false
set_option linter.all false
set_option maxRecDepth 100000
set_option maxHeartbeats 2000000
namespace VD
open PySem PySem.Spec PyProof.Rows L2

/-! ### a def that is called where an exception is handled, p's -/
structure HotFn (P : Program) (w : World) (K : PySem.W.Frag) (mg : Str → Option Value) (base : Heap) (p : Addr × Obj) (k : Nat) (f : Addr) (fd : FuncData) (ps : List Str) (sp : Sp) : Prop where
  len : ∀ vs H Q E, sp vs H Q E → vs.length = ps.length
  run : ∀ (A : Around) (outer : List Env) (s : Shared) (H : Hp) (args : Args) (us : List Value) (vs : List V) (Q : VK) (E : XK), L2H.RoomH k A → L2H.Hot1 A p → L2H.PinOk outer H s p → Env0 P w K mg base A outer s H → BindsTo s fd args (ps.zip us) → Vals vs us → sp vs H Q E →
    codeAny (model P w) A (.call (.ref f) args) (CR (L2N.CX P w) outer P w H s Q E) s
theorem HotFn.imp {P : Program} {w : World} {K : PySem.W.Frag} {mg : Str → Option Value} {base : Heap} {p : Addr × Obj} {k : Nat} {f : Addr} {fd : FuncData} {ps : List Str} {sp sp' : Sp} (F : HotFn P w K mg base p k f fd ps sp) (h : ∀ vs H Q E, sp' vs H Q E → sp vs H Q E) : HotFn P w K mg base p k f fd ps sp' :=
  ⟨fun vs H Q E q => F.len vs H Q E (h _ _ _ _ q), fun A outer s H args us vs Q E r1 r2 r3 r4 r5 r6 q => F.run A outer s H args us vs Q E r1 r2 r3 r4 r5 r6 (h _ _ _ _ q)⟩
section
variable {P : Program} {w : World} {K : PySem.W.Frag} {mg : Str → Option Value} {base : Heap} {T : Tx} {p : Addr × Obj}
theorem HotFn.of {x qual : Str} {params : Arguments} {body : List Stmt} {scope : Scope} {dvs : List V} {kws : List (Str × V)} {f : Addr} {fd : FuncData} {N ps : List Str} {k : Nat} {sp : Sp} (Fd : FunD K x qual params body scope dvs kws f fd) (Sc : FnScope N ps scope)
    (len : ∀ vs H Q E, sp vs H Q E → vs.length = ps.length)
    (hbody : ∀ (cdv : Value) (A : Around) (outer : List Env) (s : Shared) (H : Hp) (vs : List V) (Q : VK) (E : XK), L2H.Hot1 A p → L2H.RoomH k (A.deeper (envOfC qual scope s.heap.objs.size f cdv)) → sp vs H Q E →
      ∃ t, PSs (L2H.cxH (L2N.CX P w) P w K mg base N qual scope f cdv A outer s H E p) body t ∧ t { nx := fun _ H' => Q .non H', rt := Q } (L2.start N vs) H) : HotFn P w K mg base p (k + 1) f fd ps sp := by
  obtain ⟨oc, od, dV, kV, doc, pm, an, cdv, ct, osl, rfl, lk, hcd, _, _⟩ := Fd.ex
  refine ⟨len, fun A outer s H args us vs Q E hr hot hpin e0 hb r hsp => ?_⟩
  have KX : K.In s.heap := e0.mod.kin.keeps fun b o e => (e0.bs b o e).1
  have lim : s.heap.NoLimit := e0.mod.nolimit.keeps fun b o e => (e0.bs b o e).1
  have kinds : ∀ y ∈ ps.zip us, scope.names.lookup y.1 = some .local ∨ (scope.names.lookup y.1 = some .cell ∧ ((cellsFrom (s.heap.objs.size + 1) scope.names []).lookup y.1).isSome = true) := fun y hy =>
    (Sc.par y.1 (List.of_mem_zip hy).1).imp id fun q => ⟨q, PySem.W.cellsFrom_some _ _ _ (.inl q)⟩
  refine codeAny_call_function hr.depth (KX _ _ lk) rfl Sc.co Sc.gen rfl (PySem.W.codeRec_of KX hcd) (hb _ _ _ _ (wpAny_newFunctionEnv_cells Sc.kind kinds fun env he s1 x => ?_))
  subst he
  refine ⟨lim.keeps x.toInCall.keep, codeAny_func ?_⟩
  obtain ⟨t, ht, hq⟩ := hbody cdv A outer s H vs Q E hot (hr.deeper _) hsp
  have I := L2H.inv_startH (CX := L2N.CX P w) (cd := cdv) (f := f) (E := E) (A := A) Sc hpin e0 (len _ _ _ _ hsp) r x
  refine wpAny_mono (ht.run [] s1 (L2.start N vs) H _ I hq) (fun fl s' hs => ?_) fun e s' hs => hs
  cases fl with
  | ret u => exact let ⟨v, σ', H', J, rv, q⟩ := hs; ⟨v, H', J.os, J.bare, J.base, J.hok, rv, q⟩
  | next => exact let ⟨σ', H', J, q⟩ := hs; ⟨.non, H', J.os, J.bare, J.base, J.hok, rfl, q⟩
  | brk => exact let ⟨_, _, _, q⟩ := hs; False.elim q
  | cont => exact let ⟨_, _, _, q⟩ := hs; False.elim q
theorem mkF_len {N n : Nat} {m : MS} {ws : List W} {r : Res W × List W} (e : mkF N n m ws = some r) : ws.length = n := by
  unfold mkF at e
  split at e
  · assumption
  · cases e
/-- a def's promise, from within -/
theorem spV_in {N ps : List Str} {m : MS} {vs : List V} {H : Hp} {Q : VK} {E : XK} (h : spV ⟨K, mg, T⟩ (mkF N.length ps.length m) vs H Q E) :
    rdS ⟨K, mg, T⟩ ps.length { nx := fun _ H' => Q .non H', rt := Q } (L2.start N vs) H (fun cls d _ H => E cls d H) m := by
  obtain ⟨ws, B, F0, o, ws', hl, st, e, k⟩ := h
  have hw := mkF_len e
  have en := st.enter (N := N) hl
  rw [hw] at en
  unfold mkF at e
  rw [if_pos hw] at e
  have tk : (L2.start N vs).take ps.length = vs.map some := by
    have h2 : ps.length = (vs.map some).length := by rw [List.length_map, ← hl, hw]
    unfold L2.start
    rw [h2, List.take_left]
  have hv : vs.length = ps.length := by rw [← hl, hw]
  cases e1 : m (ws.map some ++ List.replicate (N.length - ps.length) none) with
  | none => rw [e1] at e; cases e
  | some q =>
    obtain ⟨fl, S'⟩ := q
    rw [e1] at e
    refine ⟨_, B, F0, fl, S', en, e1, ?_⟩
    cases fl with
    | rt x =>
      obtain ⟨ws2, e2, e3⟩ := Option.map_eq_some_iff.mp e
      cases e3
      intro v σ' H' B' F' st' c t
      obtain ⟨F2, s2, c2⟩ := st'.leave (vs := vs) (by rw [hv]; exact t.trans tk) (by rw [hv]; exact e2)
      exact k v H' B' F2 s2 (c.trans c2)
    | nx =>
      obtain ⟨ws2, e2, e3⟩ := Option.map_eq_some_iff.mp e
      cases e3
      intro σ' H' B' F' st' c t
      obtain ⟨F2, s2, c2⟩ := (st'.old (v := .non) .non).leave (vs := vs) (by rw [hv]; exact t.trans tk) (by rw [hv]; exact e2)
      exact k .non H' B' F2 s2 (c.trans c2)
    | ex x =>
      obtain ⟨ws2, e2, e3⟩ := Option.map_eq_some_iff.mp e
      cases e3
      intro cls d σ' H' B' F' st' c t xr
      obtain ⟨F2, s2, c2⟩ := st'.leave (vs := vs) (by rw [hv]; exact t.trans tk) (by rw [hv]; exact e2)
      exact k cls d H' B' F2 s2 (c.trans c2) xr
    | bk => cases e
    | ct => cases e
theorem fnVH {x qual : Str} {params : Arguments} {body : List Stmt} {scope : Scope} {dvs : List V} {kws : List (Str × V)} {f : Addr} {fd : FuncData} {N ps : List Str} {k : Nat} {m : MS} (Fd : FunD K x qual params body scope dvs kws f fd) (Sc : FnScope N ps scope)
    (hbody : ∀ (cdv : Value) (A : Around) (outer : List Env) (s : Shared) (H : Hp) (E : XK), L2H.Hot1 A p → L2H.RoomH k (A.deeper (envOfC qual scope s.heap.objs.size f cdv)) →
      PSL T (L2H.cxH (L2N.CX P w) P w K mg base N qual scope f cdv A outer s H E p) (fun cls d _ H => E cls d H) ps.length body m) : HotFn P w K mg base p (k + 1) f fd ps (spV ⟨K, mg, T⟩ (mkF N.length ps.length m)) :=
  HotFn.of Fd Sc (fun vs H Q E ⟨ws, _, _, _, _, hl, _, e, _⟩ => by rw [← hl]; exact mkF_len e) fun cdv A outer s H vs Q E hot hr h => ⟨_, hbody cdv A outer s H E hot hr, spV_in h⟩
end
/-! ### its call -/
section
variable {X : Cx} {p : Addr × Obj} {k : Nat} {f : Addr} {fd : FuncData} {ps : List Str} {sp : Sp} {E : St → XK} {x : Str} {q pos : Pos} {e : Expr} {es : List Expr} {t : TA}
theorem pe_callHot (F : HotFn X.prog X.w X.K X.mg X.base p k f fd ps sp) (hr : L2H.RoomH k X.A) (hc : HotP X p) (hg : Gl X x) (hm : X.mg x = some (.ref f)) (hk : PySem.W.keepIn X.K (.ref f) = true) (hb : Binds X.K fd ps []) (hx : ∀ σ, PassesAt (L2N.CX X.prog X.w) X σ (E σ))
    (ha : PA X (e :: es) t) (hdb : (x == ("__debug__" : Str)) = false := by decide) (he : starEach (e :: es) X.env = (false, eval e X.env) :: starEach es X.env := by rfl) (hpl : (backTo pos (starEach es X.env)).any (·.1) = false := by rfl) :
    PE X (.Call (.Name x q) (e :: es) [] pos) (tCallS sp E t) := by
  refine ⟨fun pins s σ H Q I h => ?_⟩
  refine wpAny_Call_Name_kw (ld_glob I hg hm ?_ hdb)
  refine PySem.W.callWith_K (h₀ := X.base) I.ok.mod.kin hk (thn (ha.run pos pins s σ H _ I h) fun us s1 ⟨vs, H1, J, r, z⟩ => ⟨J.kIn, ?_⟩) he hpl
  have hl : us.length = ps.length := by rw [← r.length]; exact F.len _ _ _ _ z
  have b := hb s1 us J.kIn (by rw [List.append_nil]; exact hl)
  rw [List.append_nil] at b
  have P1 := J.pin p (List.mem_append_left _ hc.2)
  have hpin : L2H.PinOk X.stack H1 s1 p := ⟨P1.1, P1.2.1, fun hm => (List.mem_cons.mp (J.stkSub p.1 hm)).elim P1.2.2.1 P1.2.2.2.1, P1.2.2.2.2⟩
  refine wpAny_call (codeAny_mono (F.run X.A X.stack s1 H1 ⟨us, []⟩ us vs Q (E σ) hr hc.1 hpin J.env0 b r z) fun r s' hq => ?_)
  cases r with
  | error e => exact hx σ pins H1 s1 e s' J hq
  | ok fl =>
    cases fl with
    | ret u => exact J.after hq
    | next => exact False.elim hq
    | brk => exact False.elim hq
    | cont => exact False.elim hq
end
/-! ### isinstance of the exception that is handled -/
theorem relV_ref {C : Addr} : ∀ u, RelV (.ref C) u → u = .ref C := fun u h => h
theorem relV_ty {n : String} : ∀ u, RelV (.ty n) u → u = .type n := fun u h => h
def rIsX (K : PySem.W.Frag) (C : Addr) (d : Option Addr) (a : Addr) : List V → Hp → VK → Prop := fun xs H Q => ∃ (c : V) (cv : Value) (b : Bool), xs = [.ref a, c] ∧ (∀ u, RelV c u → u = cv) ∧ PySem.W.kitOne K (.ref C) cv = some b ∧ (∀ dx, d = some dx → ∃ fs, H dx = some (.xd fs)) ∧ Q (.bl b) H
theorem call_isX {X : Cx} {p : Addr × Obj} {C : Addr} {d : Option Addr} (hp : p ∈ X.pn) (F : ExcC X.K C) (hz : Zc (.ref C) d p.2) (hf : ∃ vs, p.2.data = .fields vs) : CallR X (.builtin "isinstance") (rIsX X.K C d p.1) := by
  intro pins s σ H xs us Q I r h
  obtain ⟨c, cv, b, rfl, hcv, e, hd, q⟩ := h
  cases r with
  | cons rx rr =>
    cases rr with
    | cons rt rr =>
      cases rr
      cases rx
      obtain rfl := hcv _ rt
      have hget := (I.pin p (List.mem_append_left _ hp)).1
      obtain ⟨vs, hv⟩ := hf
      have ⟨od, J⟩ : ∃ od, PySem.W.InstAt s.heap p.1 p.2 C od := by
        have no : PySem.W.notCls p.2 = true := by unfold PySem.W.notCls; rw [hv]
        cases d with
        | none => exact ⟨none, hget, hz.1, no, by rw [hz.2]; trivial⟩
        | some dx =>
          obtain ⟨fs, ed⟩ := hd dx rfl
          have hx : ObjOk X.prog X.w H s.heap dx (.xd fs) := I.hok dx _ ed
          obtain ⟨mA, hns, _⟩ := hx
          obtain ⟨o, ho, _⟩ := lookIn_ns hns
          exact ⟨some o, hget, hz.1, no, by rw [hz.2]; exact ho⟩
      obtain ⟨cd, hc, _⟩ := PySem.W.any_some F.hd
      exact PySem.W.kia_one (PySem.W.kitx_exc (by rw [hc]; rfl) F.hg F.hk F.hs F.ha F.hn F.ht F.hm) I.kIn J e (fun z => nomatch z) fun tk => ⟨.bl b, H, I.kept (t' := tk) fun _ _ z => z, rfl, q⟩
/-- the answer, the exception in slot i -/
def mIsX (i : Nat) (b : Bool) : M W := fun S => match (S[i]?).join with
  | some (.fr .exc) => some (.ok (.fr (.bl b)), S)
  | _ => none
section
variable {T : Tx} {X : Cx} {Xw : WX} {pos : Pos}
theorem pv_isX {p : Addr × Obj} {C : Addr} {d : Option Addr} {i : Nat} {x : Str} {ce : Expr} {c : V} {cv : Value} {b : Bool} {p1 p2 : Pos} (hT : T.ea = some p.1) (hTd : T.ed = d) (hp : p ∈ X.pn) (F : ExcC X.K C) (hz : Zc (.ref C) d p.2) (hf : ∃ vs, p.2.data = .fields vs)
    (hg : Gl X "isinstance") (hm : X.mg "isinstance" = none) (hce : PE X ce (tC c)) (hcv : ∀ u, RelV c u → u = cv) (hk : PySem.W.kitOne X.K (.ref C) cv = some b) (hN : X.N[i]? = some x := by rfl) (hv : Vis X.env.scope x := by first | exact Or.inl rfl | exact Or.inr (Or.inl rfl) | exact Or.inr (Or.inr rfl))
    (hd : (x == ("__debug__" : Str)) = false := by decide) (hcd : (x == ("__classdict__" : Str)) = false := by decide)
    (hb : starEach [.Name x p2, ce] X.env = (false, eval (.Name x p2) X.env) :: starEach [ce] X.env := by rfl) (hb2 : starEach [ce] X.env = (false, eval ce X.env) :: starEach [] X.env := by rfl) (hpl : (backTo pos (starEach [ce] X.env)).any (·.1) = false := by rfl) :
    PV T X Xw (.Call (.Name "isinstance" p1) [.Name x p2, ce] [] pos) (mIsX i b) :=
  peImp (pe_callB (call_isX hp F hz hf) hg hm boot_isinstance (pa_cons (po_slot i hN hv hd hcd (T := T) (Xw := Xw)) (pa_cons hce pa_nil hb2) hb) (by decide) (by decide) hb hpl) fun σ H Q ⟨S, B, F0, o, S', st, e, w⟩ => by
    unfold mIsX at e
    split at e
    · rename_i e0
      cases e
      refine ⟨S, B, F0, .ok (.at i), S, st, by unfold mSlot; rw [e0], fun v H' B' F' kv st' c' => ?_⟩
      have vw : Vw (gx X T) B' H' (.fr .exc) v := st'.view e0 kv
      obtain ⟨_, ow⟩ := vw
      cases ow with
      | fr r =>
        cases r with
        | @exc a h1 h2 =>
          have ea : a = p.1 := by
            have z : T.ea = some a := h1
            rw [hT] at z
            exact (Option.some.inj z).symm
          subst ea
          refine ⟨c, cv, b, rfl, hcv, hk, fun dx e1 => ?_, w _ H' B' F' trivial (Sta.old (show Sta (gx X T) σ H' S [] B' F' from st') .bl) c'⟩
          obtain ⟨fs, q⟩ := h2 dx (by show T.ed = _; rw [hTd]; exact e1)
          rcases st'.sub _ _ q with z | ⟨z, _⟩
          · exact ⟨fs, z⟩
          · exact z.elim
    · cases e
end
end VD

set_option Elab.async false
set_option linter.all false
set_option maxRecDepth 100000
set_option maxHeartbeats 2000000
namespace VD
open PySem PySem.Spec PyProof.Rows L2

/-! ### [int(b) for b in bs] where an exception is handled -/
def b2i (b : Bool) : Int := if b then 1 else 0
def blsD : List D → Option (List Bool)
  | [] => some []
  | .bl b :: ds => (blsD ds).map (b :: ·)
  | _ => none
theorem blsD_eq : ∀ {ds : List D} {bs : List Bool}, blsD ds = some bs → ds = bs.map .bl
  | [], bs, e => by cases e; rfl
  | d :: ds, bs, e => by
    cases d with
    | bl b =>
      have e : (blsD ds).map (b :: ·) = some bs := e
      obtain ⟨r, e1, rfl⟩ := Option.map_eq_some_iff.mp e
      rw [blsD_eq e1]; rfl
    | _ => simp [blsD] at e
theorem rep_bls {G : Gx} {B : Hp} : ∀ {bs : List Bool} {vs : List V}, RepL G B (bs.map .bl) vs → vs = bs.map V.bl
  | [], vs, h => by cases h; rfl
  | b :: bs, vs, h => by
    cases h with
    | cons h r =>
      cases h
      rw [rep_bls r]; rfl
def mFlags (i j : Nat) : M W := fun S => if j < S.length then match (S[i]?).join with
  | some w => match w.asLr with
    | some ds => if ds.length ≤ 100 then (blsD ds).map fun bs => (.ok (newL (bs.map fun b => .int (b2i b))), S) else none
    | none => none
  | none => none
  else none
section
variable {T : Tx} {X : Cx} {Xw : WX} {pos : Pos}
theorem wipe1 {σ : St} {j : Nat} {o : Option V} : wipe ((wipe σ [j]).set j o) [j] = wipe σ [j] := (Alike.wipe (is := [j]) (Alike.set (i := j) (σ := wipe σ [j]) (o := o))).trans wipe_idem
theorem pv_flags {p : Addr × Obj} {i j : Nat} {x y : Str} {p1 p2 p3 p4 p5 : Pos} {scope : Scope} (c : HotP X p) (hN : X.N.Nodup) (hi : X.N[i]? = some x) (hj : X.N[j]? = some y) (hv : Vis X.env.scope x) (ok : BlkOk X.N X.env.scope scope [(y, j)]) (hm : X.mg "int" = none)
    (hgi : ∀ (s : Shared) (H : Hp) (C : Addr) (cl : List (Str × Addr)) (fp : List Addr), Gl (X.blk s H scope (compEnvC scope cl C X.env) fp) "int") (hvj : ∀ (s : Shared) (H : Hp) (C : Addr) (cl : List (Str × Addr)) (fp : List Addr), Loc (X.blk s H scope (compEnvC scope cl C X.env) fp).env.scope y)
    (hvv : ∀ (s : Shared) (H : Hp) (C : Addr) (cl : List (Str × Addr)) (fp : List Addr), Vis (X.blk s H scope (compEnvC scope cl C X.env) fp).env.scope y) (hf : ∀ (s : Shared) (H : Hp) (C : Addr) (cl : List (Str × Addr)) (fp : List Addr), (X.blk s H scope (compEnvC scope cl C X.env) fp).env.scope.names.lookup y = some .local)
    (hd : (x == ("__debug__" : Str)) = false := by decide) (hcd : (x == ("__classdict__" : Str)) = false := by decide) (hd' : (y == ("__debug__" : Str)) = false := by decide) (hcd' : (y == ("__classdict__" : Str)) = false := by decide) :
    PV T X Xw (.ListComp (.Call (.Name "int" p1) [.Name y p2] [] p3) [⟨.Name y p4, .Name x p5, [], 0⟩] scope pos) (mFlags i j) :=
  peImp (pe_lcH c hN (pe_var hi hv hd hcd) ok (fun s H C cl fp => pg_name hN hj (hvj s H C cl fp) (.inr (hf s H C cl fp))) (fun s H C cl fp => pe_callTy call_int1 (hgi s H C cl fp) hm boot_int (pa_cons (pe_var hj (hvv s H C cl fp) hd' hcd') pa_nil (by rfl)) (by decide) (by decide) (by rfl) (by rfl)) (by intro _; rfl)) fun σ H Q ⟨S, B, F, o, S', st, e, w⟩ => by
    unfold mFlags at e
    split at e
    · rename_i hjl
      split at e
      · rename_i w0 e0
        split at e
        · rename_i ds ed
          split at e
          case isFalse => cases e
          rename_i hlen
          obtain ⟨bs, e1, e2⟩ := Option.map_eq_some_iff.mp e
          cases e2
          obtain rfl := blsD_eq e1
          obtain ⟨v, ev, _⟩ := st.park (slot_some e0)
          obtain ⟨a, vs, rfl, hs, r⟩ := (st.view e0 ev).lstr st.sub ed
          obtain rfl := rep_bls r
          refine ⟨.ref a, ev, a, _, rfl, hs, fun D hD => ⟨fun i H2 => H2 = upd H D (.lst ((bs.take i).map fun b => V.int (b2i b))), by simp, fun i H2 e => by rw [e]; exact sqL_le (Grow.new hD) hs, fun H2 e => ?_, fun i x H2 hx e => ?_⟩⟩
          · rw [e, List.length_map, List.take_length]
            refine (w.new st .refl).one st.sub hD fun H' e' g => ?_
            have ri : ∀ bs : List Bool, RepL (gx X T) B (bs.map fun b => VD.D.int (b2i b)) (bs.map fun b => V.int (b2i b)) := fun bs => by
              induction bs with
              | nil => exact .nil
              | cons b bs ih => exact .cons .int ih
            exact .lst e' (ri bs).own
          · subst e
            rw [List.getElem?_map] at hx
            obtain ⟨b, hb, rfl⟩ := Option.map_eq_some_iff.mp hx
            obtain ⟨hlt, hb⟩ := List.getElem?_eq_some_iff.mp hb
            refine ⟨wipe1, ?_⟩
            refine ⟨.bl b, ?_, .inr ⟨b, rfl, _, upd_same, ?_, ?_⟩⟩
            · have hl : j < (wipe σ [j]).length := by rw [wipe_length]; exact Nat.lt_of_lt_of_le hjl st.len
              show ((wipe σ [j]).set j (some (V.bl b)))[j]? = _
              rw [List.getElem?_set_self hl]
            · rw [List.length_map] at hlen
              rw [List.length_map, List.length_take, sizeLine_eq]
              omega
            · show upd (upd H D _) D _ = _
              have eu : ∀ (o o' : HO), upd (upd H D o) D o' = upd H D o' := fun o o' => by
                funext q
                by_cases z : q = D
                · rw [z, upd_same, upd_same]
                · rw [upd_ne z, upd_ne z, upd_ne z]
              rw [eu]
              congr 2
              rw [List.take_succ_eq_append_getElem hlt, List.map_append, hb]
              rfl
        · cases e
      · cases e
    · cases e
end
end VD

set_option Elab.async false
set_option linter.all false
set_option maxRecDepth 100000
set_option maxHeartbeats 4000000
namespace VD
open PySem PySem.Spec PyProof.Rows L2

/-! ### own exceptions with an __init__ that sets one field -/
def oexCls (K : PySem.W.Frag) (C : Addr) : Bool := match K.lookup C with
  | some ⟨.type ty, dd, .cls cd, sl⟩ => (match cd.mro, sl.toList with
    | .ref C' :: bm, [_, _, _, _, some (.builtin n), _] => ty == "type" && (C' == C && (n == "ValueError.__new__" && (!cd.hasDel && (cd.hasDict && PySem.HandSPX.refsVE bm))))
    | _, _ => false)
  | _ => false
theorem oexCls_ok {K : PySem.W.Frag} {C : Addr} (q : oexCls K C = true) : ∃ nm q N bs bm sn sub ab col dd k0 k1 k2 k3 k5, K.lookup C = some (excClassObj nm q C N bs bm true sn sub ab col dd k0 k1 k2 k3 k5 "ValueError.__new__") ∧ PySem.HandSPX.refsVE bm = true := by
  unfold oexCls at q
  split at q
  · rename_i ty dd cd sl ho
    split at q
    · rename_i C' bm k0 k1 k2 k3 n k5 hm hs
      simp only [Bool.and_eq_true, beq_iff_eq, Bool.not_eq_true'] at q
      obtain ⟨rfl, rfl, rfl, hdel, hdd, hr⟩ := q
      obtain ⟨nm, bs, mro, ns, qn, hd, sn, sub, ab, col, del⟩ := cd
      dsimp only at hm hdel hdd
      subst hm hdel hdd
      have hsl : sl = #[k0, k1, k2, k3, some (.builtin "ValueError.__new__"), k5] := by
        obtain ⟨l⟩ := sl
        simp only at hs
        rw [hs]
      subst hsl
      exact ⟨nm, qn, ns, bs, bm, sn, sub, ab, col, dd, k0, k1, k2, k3, k5, ho, hr⟩
    · cases q
  · cases q
def oexB (K : PySem.W.Frag) (C : Addr) : Bool := oexCls K C && (decide (PySem.W.findIn K (.ref C) "__setattr__" = some (some (.builtin "object.__setattr__"))) && (decide (PySem.W.subIn K (.ref C) (.type "BaseException") = some true) && (decide (PySem.W.typeIn K (.ref C) = some (.type "type")) && PySem.W.keepIn K (.ref C))))
theorem oexB_ok {K : PySem.W.Frag} {C : Addr} (h : oexB K C = true) : OexC K C := by
  unfold oexB at h
  simp only [Bool.and_eq_true, decide_eq_true_eq] at h
  exact ⟨oexCls_ok h.1, h.2.1, h.2.2.1, h.2.2.2.1, h.2.2.2.2⟩
section
variable {X : Cx} {e : Expr} {es : List Expr} {ta : TA} {p1 p2 pos : Pos} {y : Str} {C0 : Addr} {mc : Value}
/-- Y.__init__(self, ..), Y an own class over ValueError -/
theorem pe_ownInit {pl : Sem Bool} (hg : Gl X y) (hm : X.mg y = some (.ref C0)) (rd : PySem.W.readsIn X.K C0 mc = true) (ga : PySem.W.specialIn X.K (.ref C0) "__getattribute__" = some (some (.builtin "type.__getattribute__")))
    (vV : PySem.W.findCls X.K (.ref C0) mc "__init__" = some (.val (.builtin "ValueError.__init__"))) (ha : PA X (e :: es) ta) (hdb : (y == ("__debug__" : Str)) = false := by decide)
    (hc : eval (.Call (.Attribute (.Name y p1) "__init__" p2) (e :: es) [] pos) X.env = (do
      let ov ← eval (.Name y p1) X.env
      standAt p2.atName
      let (f, first) ← holding [ov] (getMethod ov "__init__" pl)
      callWith pos f first (backTo pos (starEach (e :: es) X.env)) (backToKw pos (keywordEach [] X.env))) := by rfl)
    (he : starEach (e :: es) X.env = (false, eval e X.env) :: starEach es X.env := by rfl) (hpl : (backTo pos (starEach es X.env)).any (·.1) = false := by rfl) :
    PE X (.Call (.Attribute (.Name y p1) "__init__" p2) (e :: es) [] pos) (tVeI X.K ta) := by
  refine ⟨fun pins s σ H Q I h => ?_⟩
  refine PySem.W.methodCall_KW (ld_glob I hg hm ?_ hdb) hc
  refine PySem.W.method_cls I.kIn ga (PySem.W.cls_value I.kIn rd vV (by decide +kernel) ?_)
  show wpAny _ _ (callWith pos (Value.builtin "ValueError.__init__") [] (backTo pos (starEach (e :: es) X.env)) []) _ _ _
  refine PyProof.Rows.callWith_method1 (thn (ha.run pos pins _ σ H _ (I.tok _) h) fun us s1 ⟨vs, H1, I1, r1, a, C, ws, ev, hl, F, ea, q⟩ => ?_) he hpl
  subst ev
  cases r1 with
  | @cons _ u0 _ ur ra rw' =>
    obtain rfl : u0 = Value.ref a := ra
    exact oinit_ok F I1 ea (by rw [← Paired.length rw', sizeLine_eq]; omega) fun s' J => ⟨.non, H1, J, rfl, q⟩
end
/-- what such an __init__ does: one field is set -/
def spInit (C : Addr) (f : Str) : Sp := fun vs H Q _ => ∃ (a : Addr) (y : V), vs = [.ref a, y] ∧ H a = some (exo a C none) ∧ ∀ dx, H dx = none → dx ≠ a → Q .non (upd (upd H dx (exd dx [(f, y)])) a (exo a C (some dx)))
section
variable {P : Program} {w : World} {K : PySem.W.Frag} {mg : Str → Option Value} {base : Heap}
theorem ok_exinit {qual who f : Str} {params : Arguments} {scope : Scope} {g : Addr} {fd : FuncData} {C : Addr} {call : Expr} {m : Str} {dvs : List V} {kws : List (Str × V)} {p6 p7 p8 p9 p10 : Pos} {k : Nat}
    (Fd : FunD K "__init__" qual params [.Expr call p6, .Assign [.Attribute (.Name "self" p7) f p8] (.Name who p9) p10] scope dvs kws g fd) (Sc : FnScope ["self", who] ["self", who] scope) (T : OexC K C) (hno : PySem.W.findIn K (.ref C) f = some none)
    (hcall : ∀ (cdv : Value) (A : Around) (outer : List Env) (s : Shared) (H : Hp) (E : XK), PE (cxOf (L2N.CX P w) P w K mg base ["self", who] qual scope g cdv A outer s H E) call (tVeI K (tCons (tVar 0) (tCons (tC (.str m)) tNil))))
    (hsw : ∀ (cdv : Value) (A : Around) (outer : List Env) (s : Shared) (H : Hp) (E : XK), swapsWith call none p6.line (cxOf (L2N.CX P w) P w K mg base ["self", who] qual scope g cdv A outer s H E).env = pure false)
    (hs : scope.names.lookup ("self" : Str) = some .local) (hw : scope.names.lookup who = some .local) (hdw : (who == ("__debug__" : Str)) = false) (hcw : (who == ("__classdict__" : Str)) = false) :
    FnOk P w K mg base (L2N.CX P w) (k + 1) g fd ["self", who] (spInit C f) := by
  refine Fd.ok Sc (fun vs H Q E ⟨a, y, e, _⟩ => by rw [e]; rfl) fun cdv A outer s H vs Q E hr h => ?_
  obtain ⟨a, y, rfl, ha, hq⟩ := h
  refine ⟨_, pss_cons (ps_expr (hcall cdv A outer s H E) (hsw cdv A outer s H E)) (pss_one (ps_ost (pe_var (i := 0) rfl (.inl hs)) (pe_var (i := 1) rfl (.inl hw) hdw hcw))), ?_⟩
  exact ⟨.ref a, rfl, a, C, [.str m], rfl, (by show 1 ≤ 1000; decide), T, ha, y, rfl, .ref a, rfl, a, C, rfl, T, hno, .inl ⟨ha, fun dx h1 h2 => hq dx h1 h2⟩⟩
end
/-! ### raising -/
section
variable {X : Cx} {x : Str} {e : Expr} {es : List Expr} {ta : TA} {p pos : Pos}
/-- C(e, ..) raised where nothing is handled: its context is None -/
theorem pmk_oexN {CX : CXT} {C fI : Addr} {k : Nat} {fd : FuncData} {ps : List Str} {sp : Sp} (T : OexC X.K C) (iC : PySem.W.findIn X.K (.ref C) "__init__" = some (some (.ref fI))) (tI : PySem.W.typeIn X.K (.ref fI) = some (.type "function"))
    (F1 : FnOk X.prog X.w X.K X.mg X.base CX k fI fd ps sp) (hr : Room (k + 1) X.A) (hb : Binds X.K fd ps []) (hx : Passes CX X (fun _ _ _ => False)) (hg : Gl X x) (hm : X.mg x = some (.ref C)) (ha : PA X (e :: es) ta)
    (hdb : (x == ("__debug__" : Str)) = false := by decide) (he : starEach (e :: es) X.env = (false, eval e X.env) :: starEach es X.env := by rfl) (hpl : (backTo pos (starEach es X.env)).any (·.1) = false := by rfl) :
    L2N.PMk X (.Call (.Name x p) (e :: es) [] pos) (tMkO C sp [] ta) := by
  intro pins s σ H Q I h
  obtain ⟨nm, q, N, bs, bm, sn, sub, ab, col, dd, k0, k1, k2, k3, k5, hC, hbm⟩ := T.cls
  refine wpAny_Call_Name_kw (ld_glob I hg hm ?_ hdb)
  refine PySem.W.callWith_K (h₀ := X.base) I.ok.mod.kin T.kC (thn (ha.run pos pins s σ H _ I h) fun us s1 ⟨vs, H1, I1, r1, hz, q1⟩ => ⟨I1.kIn, ?_⟩) he hpl
  show wpAny _ _ (call (.ref C) us) _ _ _
  obtain ⟨hp, g, dr, tk, os⟩ := s1
  have lt1 : hp.objs.size ≤ hp.objs.size + 1 := Nat.le_succ _
  have hq := q1 (hp.objs.size + 1) (I1.hok.fresh lt1)
  rw [List.append_nil] at hq
  have kk : ∀ b o, hp.get? b = some o → ((hp.push (PySem.W.kdv_tup us)).push (PySem.HandSPX.excO C hp.objs.size)).get? b = some o := fun b o z => Heap.get?_push_of_some _ (Heap.get?_push_of_some _ z)
  have I2 := I1.laid (t' := tk) (a := hp.objs.size + 1) (o := exo (hp.objs.size + 1) C none) (h' := (hp.push (PySem.W.kdv_tup us)).push (PySem.HandSPX.excO C hp.objs.size)) kk lt1 (exo_ok (t1 := hp.objs.size) (by heap_get))
  have r2 : Vals (V.ref (hp.objs.size + 1) :: vs) (Value.ref (hp.objs.size + 1) :: us) := .cons rfl r1
  have hl : (Value.ref (hp.objs.size + 1) :: us ++ []).length = ps.length := by
    rw [List.append_nil, ← r2.length]
    exact F1.len _ _ _ _ hq
  have b2 := hb _ (Value.ref (hp.objs.size + 1) :: us) I2.kIn hl
  rw [List.append_nil] at b2
  have hus : us.length ≤ sizeLine := by
    rw [← Paired.length r1, sizeLine_eq]
    omega
  refine wpAny_call (PySem.HandSPX.call_own F.excBase_ValueError (fun Y => PySem.HandSPX.refsVE_contains Y bm hbm) (I1.kIn _ _ hC) (PySem.W.looks_findIn I1.kIn iC) (fun self => PySem.W.bind_fn I1.kIn self tI) hus
    (codeAny_mono (F1.run _ X.stack _ _ ⟨Value.ref (hp.objs.size + 1) :: us, []⟩ (Value.ref (hp.objs.size + 1) :: us) _ _ (fun _ _ _ => False) (hr.make C us []) (I2.env0.make C us []) b2 r2 hq) fun r s' hq' => ?_))
  cases r with
  | error er => exact hx pins σ _ _ er s' I2 hq'
  | ok fl =>
    cases fl with
    | ret u =>
      obtain ⟨v, H2, os2, bare2, un2, hok2, rv, ev, d, fs, ea, ed, hd1, q2⟩ := hq'
      subst ev
      obtain ⟨h2, g2, d2, t2, os'⟩ := s'
      obtain ⟨t0, G, J, kG, ge, hoe, na⟩ := mk_end0 (d2 := d2) (t2 := t2) I1 lt1 kk un2 hok2 os2 bare2 ea ed hd1
      exact ⟨rv, ⟨hp.objs.size + 1, _, _, ⟨G, g2, d2, t2, os'⟩, _, .ref C, some d, rfl, J, kG, ge, hoe, ⟨rfl, rfl, fun vs hv => by cases hv; rfl⟩, rfl, rfl, na, rfl, bare2, raises_own T.exC T.tyC, q2⟩⟩
    | next => exact False.elim hq'
    | brk => exact False.elim hq'
    | cont => exact False.elim hq'
end
def mRaise (c : Str) : MS := fun S => some (.ex ⟨c, none⟩, S)
def mRaiseF (c f : Str) (m : M W) : MS := bindS m fun w => fun S => some (.ex ⟨c, some (f, w.toD)⟩, S)
/-- the facts of an own exception without __init__ -/
structure Ex0 (K : PySem.W.Frag) (mg : Str → Option Value) (c : Str) (C : Addr) : Prop where
  mgc : mg c = some (.ref C)
  ex : PySem.W.excIn K C He.veBase "ValueError.__new__" = true
  kp : PySem.W.keepIn K (.ref C) = true
  sb : PySem.W.subIn K (.ref C) (.type "BaseException") = some true
  ty : PySem.W.typeIn K (.ref C) = some (.type "type")
/-- .. with one, which sets the field f -/
structure Ex1 (P : Program) (w : World) (K : PySem.W.Frag) (mg : Str → Option Value) (base : Heap) (c f : Str) (C : Addr) (k : Nat) : Prop where
  mgc : mg c = some (.ref C)
  cls : OexC K C
  ini : ∃ (fI : Addr) (fd : FuncData) (who : Str), PySem.W.findIn K (.ref C) "__init__" = some (some (.ref fI)) ∧ PySem.W.typeIn K (.ref fI) = some (.type "function") ∧ Binds K fd ["self", who] [] ∧ FnOk P w K mg base (L2N.CX P w) k fI fd ["self", who] (spInit C f)
section
variable {T : Tx} {X : Cx} {Xw : WX} {P : Nat} {pos : Pos}
theorem psv_raise0 {c m : Str} {C : Addr} {j : Nat} {p p2 p3 : Pos} (hc : X.calm = true) (tk : L2N.Takes X Xw) (Z : Ex0 X.K X.mg c C) (hg : Gl X c := by rfl) (hdb : (c == ("__debug__" : Str)) = false := by decide) :
    PSV T X Xw P (.Raise (some (.Call (.Name c p) [.Constant (.str m) j p2] [] p3)) none pos) (mRaise c) :=
  psv_raise hc tk (L2N.pmk_own PySem.F.excBase_ValueError Z.ex Z.mgc Z.kp (raises_own Z.sb Z.ty) hg hdb) fun σ H Q k => k _ _ fun B => ⟨C, Z.mgc, rfl, rfl⟩
theorem psv_raiseF {c f : Str} {C : Addr} {k k' : Nat} {e : Expr} {m : M W} {p p3 : Pos} (hc : X.calm = true) (tk : L2N.Takes X Xw) (tk0 : L2N.Takes X (fun _ _ _ _ => False)) (F : Ex1 X.prog X.w X.K X.mg X.base c f C k) (hr : Room k' X.A) (he : PV T X Xw e m) (hk : k + 1 ≤ k' := by decide) (hg : Gl X c := by rfl) (hdb : (c == ("__debug__" : Str)) = false := by decide)
    (hs : starEach [e] X.env = (false, eval e X.env) :: starEach [] X.env := by rfl) : PSV T X Xw P (.Raise (some (.Call (.Name c p) [e] [] p3)) none pos) (mRaiseF c f m) := by
  obtain ⟨fI, fd, who, h1, h2, h3, h4⟩ := F.ini
  refine psImp (L2N.ps_raise hc tk (pmk_oexN F.cls h1 h2 h4 (hr.mono hk) h3 (L2N.passes_call tk0 fun _ _ _ _ z => z) hg F.mgc (pa_cons he pa_nil hs) hdb hs rfl)) fun Dn σ H h => ?_
  refine (h.step (k := kW)).mono fun v H1 ⟨w, B, F0, B1, F1, S, o, S', _, st, c1, e, wn⟩ => ?_
  cases e
  obtain ⟨B2, F2, s2, c2⟩ := Sta.settle (by simpa [kW] using st)
  have rp : Rep (gx X T) B2 w.toD v := (s2.held (List.mem_cons_self ..)).rep
  obtain ⟨F3, s3, c3⟩ := Sta.drop (ts := []) s2
  refine ⟨by show 1 ≤ 1000; decide, fun a ha => ⟨a, v, rfl, upd_same, fun dx hdx hne => ?_⟩⟩
  have hd1 : H1 dx = none := by rw [upd_ne hne] at hdx; exact hdx
  refine ⟨rfl, dx, [(f, v)], upd_same, ?_, hd1, ?_⟩
  · rw [upd_ne hne, upd_same]
  · have eu : upd (del (upd (upd (upd H1 a (exo a C none)) dx (exd dx [(f, v)])) a (exo a C (some dx))) a) dx (.xd [(f, v)]) = upd H1 dx (.xd [(f, v)]) := by
      funext b
      by_cases z : b = dx
      · rw [z, upd_same, upd_same]
      · rw [upd_ne z, upd_ne z]
        by_cases z2 : b = a
        · rw [z2, del_same, ha]
        · rw [del_ne z2, upd_ne z2, upd_ne z, upd_ne z2]
    rw [eu]
    have hb := fresh_b s3.sub hd1
    have sb4 : Sub (upd B2 dx (.xd [(f, v)])) (upd H1 dx (.xd [(f, v)])) := by
      refine ⟨fun b o q => ?_, fun b ps q => ?_⟩
      · by_cases z : b = dx
        · subst z; rw [upd_same] at q ⊢; exact .inl q
        · rw [upd_ne z] at q ⊢; exact s3.sub b o q
      · by_cases z : b = dx
        · subst z; rw [upd_same] at q; cases q
        · rw [upd_ne z] at q; exact s3.sub.nt b ps q
    have fr4 : ∀ b o, upd B2 dx (.xd [(f, v)]) b = some o → B2 b = some o ∨ ¬ Live H1 b := fun b o q => by
      by_cases z : b = dx
      · subst z; exact .inr (not_live hd1)
      · rw [upd_ne z] at q; exact .inl q
    obtain ⟨s4, c4⟩ := s3.up (Grow.new hd1) (Le.upd hb) sb4 fr4
    exact wn _ _ σ _ _ F3 s4 (c1.trans (c2.trans (c3.trans c4))) rfl ⟨C, F.mgc, rfl, dx, v, rfl, upd_same, rp.mono (Le.upd hb)⟩
end
end VD

set_option Elab.async false
set_option linter.all false
set_option maxRecDepth 100000
set_option maxHeartbeats 4000000
namespace VD
open PySem PySem.Spec PyProof.Rows L2

/-! ### tables grow -/
section
variable {G : Gx} {σ : St} {H H1 B : Hp} {S : Sl} {ts : Tmp} {F : List Addr}
theorem Sub.ext (s : Sub B H) (e : LamX.ExtN H H1) : Sub B H1 :=
  ⟨fun a o q => (s a o q).imp (fun z => e a o z fun ps y => s.nt a ps (y ▸ q)) fun ⟨k, ob, z⟩ => ⟨k, ob, e a _ z fun ps y => by cases y⟩, s.nt⟩
theorem Sta.ext (s : Sta G σ H S ts B F) (e : LamX.ExtN H H1) (t : LamX.Tabs G.T.l H1) : Sta G σ H1 S ts B F ∧ Ch H B F H1 B F := by
  obtain ⟨F1, F2, o1, o2, p⟩ := s.own
  have kp : ∀ a ∈ F, ∀ o, H a = some o → H1 a = some o := fun a ha o q => by
    obtain ⟨u, e1, n⟩ := s.live ha
    rw [q] at e1
    cases e1
    exact e a o q n
  exact ⟨⟨s.sub.ext e, t, ⟨F1, F2, o1.mono (Le.refl _) fun a ha => kp a (p.mem_iff.mpr (List.mem_append_left _ ha)), o2.mono (Le.refl _) fun a ha => kp a (p.mem_iff.mpr (List.mem_append_right _ ha)), p⟩, s.nd, s.apart⟩,
    ⟨fun a o q n _ => e a o q n, Le.refl _, fun _ h => .inl h, fun _ _ h => .inl h⟩⟩
end
/-! ### a lambda's body -/
abbrev lamCxN (X : Cx) (A : Around) (outer : List Env) (s : Shared) (H : Hp) (E : XK) (scope : Scope) (f c' : Addr) : Cx :=
  { LamX.lamCx X A outer s H E scope f c' with
    pn := []
    xe := fun e s' => wpAny (model X.prog X.w) (A.deeper (LamX.lamEnv X scope s.heap.objs.size f c')) (leaving (LamX.lamEnv X scope s.heap.objs.size f c') e) (fun _ s'' => L2N.CX X.prog X.w outer H s E e s'') (fun e' s'' => L2N.CX X.prog X.w outer H s E e' s'') s' }
theorem takesL {X : Cx} {A : Around} {outer : List Env} {s : Shared} {H : Hp} {E : XK} {scope : Scope} {f c' : Addr} : L2N.Takes (lamCxN X A outer s H E scope f c') (fun cls d _ H => E cls d H) := L2N.takes_of rfl rfl rfl rfl
theorem passL {X : Cx} {A : Around} {outer : List Env} {s : Shared} {H : Hp} {E : XK} {scope : Scope} {f c' : Addr} : PassesOwn (model X.prog X.w) (lamCxN X A outer s H E scope f c').A (lamCxN X A outer s H E scope f c').env (lamCxN X A outer s H E scope f c').xe := passes_of rfl
section
variable {X : Cx} {pins : List (Addr × Obj)} {σ : L2.St} {H : Hp} {s : Shared}
/-- a(), in the def that got the lambda -/
theorem pe_actN {CXg : CXT} {Eg : XK} {Ng : List Str} {qg : Str} {sg : Scope} {g f c' : Addr} {cdg pm ctv : Value} {params : Arguments} {body : Expr} {scope : Scope} {k i : Nat} {a : Str} {pn : List (Addr × Obj)} {xe : Value → Shared → Prop} {W : WX} {E : XK} {tb : TE} {p1 p2 : Pos}
    (I : Inv X pins σ H s) (L : LamX.LamS X.env.scope scope) (hf : s.heap.get? f = some (PySem.W.kla_obj "<lambda>" (X.env.qual ++ "<lambda>") params body scope (cloFrom X.env.cells scope.names []) pm c' ctv)) (hfn : H f = none) (hfr : f ∉ frs X.stack)
    (hbind : bindArgs (PySem.W.kla_fn "<lambda>" (X.env.qual ++ "<lambda>") params body scope (cloFrom X.env.cells scope.names []) pm (.ref c') ctv) ⟨[], []⟩ = pure [])
    (tk : L2N.Takes ((cxOf CXg X.prog X.w X.K X.mg X.base Ng qg sg g cdg X.A X.stack s H Eg).tr pn xe) W) (hr : Room (k + 1) (X.A.deeper (envOfC qg sg s.heap.objs.size g cdg)))
    (hbody : ∀ (A : Around) (outer : List Env) (s : Shared) (H : Hp), Room k (A.deeper (LamX.lamEnv X scope s.heap.objs.size f c')) → PE (lamCxN X A outer s H E scope f c') body tb)
    (hN : Ng[i]? = some a) (hv : Vis sg a) (hd : (a == ("__debug__" : Str)) = false) (hcd : (a == ("__classdict__" : Str)) = false) :
    PE ((cxOf CXg X.prog X.w X.K X.mg X.base Ng qg sg g cdg X.A X.stack s H Eg).tr pn xe) (.Call (.Name a p1) [] [] p2)
      (fun σZ HZ Q => σZ[i]? = some (some (.ref f)) ∧ HZ c' = some (LamX.CodeO c' (X.env.qual ++ "<lambda>")) ∧ (∀ cls d H', E cls d H' → W cls d σZ H') ∧ tb σ HZ Q) := by
  refine ⟨fun pinsZ sZ σZ HZ Q IZ ⟨hs, hc, hW, ht⟩ => ?_⟩
  refine wpAny_Call_Name_kw (thn ((pe_var (pos := p1) (i := i) hN hv hd hcd).run pinsZ sZ σZ HZ (fun v H1 => v = .ref f ∧ H1 = HZ) IZ ⟨.ref f, hs, rfl, rfl⟩) fun u s1 ⟨v, H1, J1, r1, q1⟩ => ?_)
  obtain ⟨rfl, rfl⟩ := q1
  obtain rfl : u = Value.ref f := r1
  have of1 := J1.base.keep f _ hf hfn hfr (fun z => nomatch (show f ∈ ([] : List Addr) from z))
  refine PySem.W.callWith_F0 ⟨_, _, _, _, of1⟩ ?_
  obtain ⟨⟨oc, vs, t, hoc, hdc, hvc⟩, _, _⟩ := J1.hok c' _ hc
  have rc : codeAny (model X.prog X.w) (X.A.deeper (envOfC qg sg s.heap.objs.size g cdg)) (.call (.ref f) ⟨[], []⟩) (CR (L2N.CX X.prog X.w) (envOfC qg sg s.heap.objs.size g cdg :: X.stack) X.prog X.w H1 s1 Q E) s1 := by
    refine PySem.W.kla_callFunE hr.depth of1 rfl L.co L.gen rfl ⟨c', oc, vs, t, rfl, hoc, hdc, hvc⟩ ?_
    rw [hbind]
    refine wpAny_pure (wpAny_newFunctionEnv (fun y hy => (L.own y hy).2) (fun y hy => absurd hy (by simp)) (fun h₁ hns hsb => ⟨J1.nolimit.fresh _ hsb, ?_⟩) L.kind)
    show codeAny _ _ (.expr body (LamX.lamEnv X scope s1.heap.objs.size f c')) _ _
    have kp : ∀ b o, s1.heap.get? b = some o → h₁.get? b = some o := fun b o e => hsb.extBut b o (Nat.ne_of_lt (Heap.lt_size e)) (Heap.get?_push_of_some _ e)
    have J0 := LamX.lam_start2 (A := X.A.deeper (envOfC qg sg s.heap.objs.size g cdg)) (outer := envOfC qg sg s.heap.objs.size g cdg :: X.stack) (E := E) (f := f) (c' := c') (h₁ := h₁) (tk := s1.toks + ([] : List (Str × Value)).length) I L J1.env0 hr.hd J1.base hns kp
    have J : Inv (lamCxN X (X.A.deeper (envOfC qg sg s.heap.objs.size g cdg)) (envOfC qg sg s.heap.objs.size g cdg :: X.stack) s1 H1 E scope f c') [] σ H1 { s1 with heap := h₁, toks := s1.toks + ([] : List (Str × Value)).length } := J0.toTry _
    refine PySem.W.kla_codeExpr (wpAny_mono ((hbody _ _ s1 H1 (hr.deeper _)).run [] _ _ H1 Q J ht) (fun v s' hq => ?_) fun e s' hq => hq)
    exact let ⟨w', H', J', rv, q⟩ := hq; ⟨w', H', J'.os, J'.bare, J'.base, J'.hok, rv, q⟩
  refine wpAny_call (codeAny_mono rc fun r s' hq => ?_)
  cases r with
  | error e => exact tk e s' (L2N.XE.of_call J1 hW hq)
  | ok fl =>
    cases fl with
    | ret u => exact J1.after hq
    | next => exact False.elim hq
    | brk => exact False.elim hq
    | cont => exact False.elim hq
end
/-- a def that calls what it got (its first argument), in the room k + 1 -/
def GivesN (X : Cx) (k : Nat) (Ng : List Str) (x : Str) (sg : Scope) (g : Addr) (cdg : Value) (bg : List Stmt) (a : Str) (q : Str) (TT : (XK → Hp → VK → Prop) → Hp → VK → Prop) : Prop :=
  ∀ (f c' : Addr) (s : Shared) (H : Hp) (Q : VK) (tl : XK → Hp → VK → Prop), Room (k + 1) (X.A.deeper (envOfC x sg s.heap.objs.size g cdg)) →
    (∀ (W : WX) (pn : List (Addr × Obj)) (xe : Value → Shared → Prop) (E : XK) (p1 p2 : Pos), L2N.Takes ((cxOf C8.CX0 X.prog X.w X.K X.mg X.base Ng x sg g cdg X.A X.stack s H C8.E0).tr pn xe) W →
      PE ((cxOf C8.CX0 X.prog X.w X.K X.mg X.base Ng x sg g cdg X.A X.stack s H C8.E0).tr pn xe) (.Call (.Name a p1) [] [] p2) (fun σZ HZ Q => σZ[0]? = some (some (.ref f)) ∧ HZ c' = some (LamX.CodeO c' q) ∧ (∀ cls d H', E cls d H' → W cls d σZ H') ∧ tl E HZ Q)) →
    H c' = some (LamX.CodeO c' q) → TT tl H Q →
    ∃ t, PSs (cxOf C8.CX0 X.prog X.w X.K X.mg X.base Ng x sg g cdg X.A X.stack s H C8.E0).nox bg t ∧ t { nx := fun _ H' => Q .non H', rt := Q } (L2.start Ng [.ref f]) H
section
variable {X : Cx}
/-- x(lambda: body) -/
theorem pe_lamN {Tl : List (Addr × Str)} {TT : (XK → Hp → VK → Prop) → Hp → VK → Prop} {x a : Str} {g c P : Addr} {k : Nat} {pg : Arguments} {bg : List Stmt} {sg : Scope} {fd : FuncData} {dvs : List V} {kws : List (Str × V)} {Ng : List Str}
    {params : Arguments} {body : Expr} {scope : Scope} {t : XK → TE} {p lpos pos : Pos} (hg : Gl X x) (hm : X.mg x = some (.ref g)) (Fd : FunD X.K x x pg bg sg dvs kws g fd) (hb : L2.Binds X.K fd [a] []) (Sg : FnScope Ng [a] sg) (hNg : Ng[0]? = some a) (hva : Vis sg a)
    (hG : ∀ cdg, GivesN X k Ng x sg g cdg bg a (X.env.qual ++ "<lambda>") TT)
    (TB : LamX.TabB X.base X.mg c P) (hcode : X.env.code = .ref c) (hmT : (P, X.env.qual ++ "<lambda>") ∈ Tl) (hu : ∀ p ∈ Tl, p.1 = P → p.2 = X.env.qual ++ "<lambda>") (hr : Room (k + 2) X.A) (L : LamX.LamS X.env.scope scope) (hdef : defaultsOf params X.env = ([], []))
    (hbind : ∀ (q : Str) (cl : List (Str × Addr)) (pm cv ctv : Value), bindArgs (PySem.W.kla_fn "<lambda>" q params body scope cl pm cv ctv) ⟨[], []⟩ = pure [])
    (hbody : ∀ (A : Around) (outer : List Env) (s : Shared) (H : Hp) (E : XK) (f c' : Addr), Room k (A.deeper (LamX.lamEnv X scope s.heap.objs.size f c')) → PE (lamCxN X A outer s H E scope f c') body (t E))
    (hdb : (x == ("__debug__" : Str)) = false) (hd : (a == ("__debug__" : Str)) = false) (hcd : (a == ("__classdict__" : Str)) = false) :
    PE X (.Call (.Name x p) [.Lambda params body scope lpos] [] pos) (LamX.tLam Tl TT t) := by
  obtain ⟨oc, od, dV, kV, doc, pm, an, cdv, ct, osl, rfl, lk, hcd2, _, _⟩ := Fd.ex
  refine ⟨fun pins s σ H Q I ⟨hT, h⟩ => ?_⟩
  refine wpAny_Call_Name_kw (ld_glob I hg hm ?_ hdb)
  refine PySem.W.callWith_K (h₀ := X.base) I.ok.mod.kin Fd.kp ?_ (by rfl) (by rfl)
  show wpAny _ _ (spliced ((false, eval (.Lambda params body scope lpos) X.env) :: backTo pos (starEach [] X.env))) _ _ s
  refine Calls.spliced_cons (LamX.lam_make2 I TB hcode hmT hu hT hdef (L.has I.ok) fun f c' pm' ctv H1 s' I1 eN T1 hf hfn hfr hco => ?_)
  refine Calls.spliced_nil ⟨I1.kIn, ?_⟩
  have rc : codeAny (model X.prog X.w) X.A (.call (.ref g) ⟨[.ref f], []⟩) (CR C8.CX0 X.stack X.prog X.w H1 s' Q C8.E0) s' := by
    refine LamX.run_ofS (N := Ng) (ps := [a]) (us := [.ref f]) (vs := [.ref f]) lk hcd2 Sg hr I1.env0 (hb s' [.ref f] I1.kIn rfl) (.cons rfl .nil) rfl fun hr' => ?_
    obtain ⟨t', ht', hq'⟩ := hG cdv f c' s' H1 Q (fun E H' Q' => t E σ H' Q') hr' (fun W pn xe E p1 p2 tk => pe_actN (i := 0) I1 L hf hfn hfr (hbind _ _ _ _ _) tk hr' (fun A outer s H hr2 => hbody A outer s H E f c' hr2) hNg hva hd hcd) hco (h H1 eN T1)
    exact ⟨t', ht'.nox, hq'⟩
  refine wpAny_call (codeAny_mono rc fun r s2 hq => ?_)
  cases r with
  | error e => exact (show False from hq).elim
  | ok fl =>
    cases fl with
    | ret u => exact I1.after hq
    | next => exact False.elim hq
    | brk => exact False.elim hq
    | cont => exact False.elim hq
end
end VD

set_option Elab.async false
set_option linter.all false
set_option maxRecDepth 100000
set_option maxHeartbeats 4000000
namespace VD
open PySem PySem.Spec PyProof.Rows L2

/-! ### what a deed tells -/
def exNames : List Str := ["Short", "NoEntry", "Clash", "Unled", "BadText", "BadAlphabet", "BadWord", "BadPattern", "BadEntry", "BadLink", "BadNumber", "BadChoice", "BadTime", "BadEdition", "BadSearch", "Nothing"]
def exFields : List (Str × Str) := [("Short", "who"), ("NoEntry", "who"), ("Clash", "torn"), ("Unled", "named"), ("BadText", "at")]
def refD (c : Str) : D := .tup [.str "refused", .str c]
def toldD (c : Exc) : Option D := if c.c ∈ exNames then match exFields.lookup c.c, c.fs with
  | some f, some (f', x) => if f' = f then some (.tup [.str "refused", .str c.c, x]) else none
  | none, none => some (refD c.c)
  | _, _ => none
  else none
def mTold (m : M W) : M W := fun S => match m S with
  | some (.ex c, S') => (toldD c).map fun d => (.ok (.fr d), S')
  | r => r
/-- what is known of the exceptions' classes -/
structure ExF (K : PySem.W.Frag) (mg : Str → Option Value) : Prop where
  glo : ∀ h ∈ ("KeepError" : Str) :: exNames, mg h = some (.ref (He.ga K h))
  exm : ∀ c ∈ exNames, ∀ h ∈ exFields.map (·.1), PySem.W.exmOne K (.ref (He.ga K c)) (.ref (He.ga K h)) = some (c == h)
  kee : ∀ c ∈ exNames, PySem.W.exmOne K (.ref (He.ga K c)) (.ref (He.ga K "KeepError")) = some true
  fld : ∀ q ∈ exFields, XfC K (He.ga K q.1) ∧ PySem.W.findIn K (.ref (He.ga K q.1)) q.2 = some none
/-- what is known of the def that names a refusal -/
structure TermF (P : Program) (w : World) (K : PySem.W.Frag) (mg : Str → Option Value) (base : Heap) (tn arg : Str) (Tl : List (Addr × Str)) (Ft : Str → Fn) (k : Nat) : Prop where
  mgt : mg tn = some (.ref (He.ga K tn))
  kp : PySem.W.keepIn K (.ref (He.ga K tn)) = true
  ok : ∀ (p : Addr × Obj) (c : Str) (d : Option Addr), c ∈ exNames → L2N.Zn (.ref (He.ga K c)) d p.2 → (∃ vs, p.2.data = .fields vs) → ∃ fd, Binds K fd [arg] [] ∧ HotFn P w K mg base p k (He.ga K tn) fd [arg] (spV ⟨K, mg, ⟨Tl, some p.1, d⟩⟩ (Ft c))
  ev : ∀ c ∈ exNames, Ft c [.fr .exc] = some (.ok (.fr (refD c)), [.fr .exc])
def no4 : WX := fun _ _ _ _ => False
section
variable (K : PySem.W.Frag) (mg : Str → Option Value) (Tl : List (Addr × Str)) (Ft : Str → Fn)
/-- the call of the namer on the exception at a, of the class c -/
def teT (c : Str) (a : Addr) (d : Option Addr) : TE := tCallS (spV ⟨K, mg, ⟨Tl, some a, d⟩⟩ (Ft c)) (WE no4) (tCons (tVar 1) tNil)
def suF (h f : Str) : Suite := fun a cls d Dn σ H => cls = .ref (He.ga K h) ∧ tOp (rAddU K) (teT K mg Tl Ft h a d) (tTup (tCons (tXf a cls d (He.ga K h) f (tVar 1)) tNil)) σ H Dn.rt
def suK : Suite := fun a cls d Dn σ H => ∃ c, c ∈ exNames ∧ cls = .ref (He.ga K c) ∧ teT K mg Tl Ft c a d σ H Dn.rt
def suL : List (Value × Suite) := (exFields.map fun q => (Value.ref (He.ga K q.1), suF K mg Tl Ft q.1 q.2)) ++ [(.ref (He.ga K "KeepError"), suK K mg Tl Ft)]
def TTtold : (XK → Hp → VK → Prop) → Hp → VK → Prop := fun tl H Q => ∀ f : Addr, tl (fun cls d H' => wAsL K 1 no4 { nx := fun _ H'' => Q .non H'', rt := Q } (suL K mg Tl Ft) cls d [some (.ref f), none] H') H Q
end
section
variable {X : Cx} {tn arg : Str} {Tl : List (Addr × Str)} {Ft : Str → Fn} {k : Nat}
theorem markR {k : Nat} {A : Around} (r : Room k A) (h : Option Value) : L2H.RoomH k (A.mark h) := ⟨r.dp, r.un⟩
theorem pe_term {a : Addr} {o : Obj} {pn : List (Addr × Obj)} {c : Str} {d : Option Addr} {p1 p2 pos : Pos} (tf : TermF X.prog X.w X.K X.mg X.base tn arg Tl Ft k) (hr : Room k X.A) (hc : c ∈ exNames) (hz : L2N.Zn (.ref (He.ga X.K c)) d o) (hf : ∃ vs, o.data = .fields vs)
    (hg : Gl X tn) (hN : X.N[1]? = some arg) (hv : Vis X.env.scope arg) (hd : (arg == ("__debug__" : Str)) = false) (hcd : (arg == ("__classdict__" : Str)) = false) (hdt : (tn == ("__debug__" : Str)) = false) :
    PE (X.suite a ((a, o) :: pn)) (.Call (.Name tn p1) [.Name arg p2] [] pos) (teT X.K X.mg Tl Ft c a d) := by
  obtain ⟨fd, hb, F⟩ := tf.ok (a, o) c d hc hz hf
  obtain ⟨vs, ev⟩ := hf
  refine pe_callHot (p := (a, o)) F (markR hr _) ⟨⟨rfl, vs, ev, hz.2.2 vs ev⟩, List.mem_cons_self ..⟩ hg tf.mgt tf.kp hb (fun σ pins H s e s' I z => ?_) (pa_cons (pe_var (i := 1) hN hv hd hcd) pa_nil (by rfl)) hdt (by rfl) (by rfl)
  obtain ⟨_, _, _, _, _, _, _, _, _, _, _, _, z⟩ := z
  exact z.elim
theorem su_F {h f : Str} {p1 p2 p3 p4 p5 p6 p7 p8 : Pos} {j : Nat} (ef : ExF X.K X.mg) (tf : TermF X.prog X.w X.K X.mg X.base tn arg Tl Ft k) (hr : Room k X.A) (hm : (h, f) ∈ exFields) (hg : Gl X tn) (hN : X.N[1]? = some arg) (hv : Vis X.env.scope arg) (hd : (arg == ("__debug__" : Str)) = false) (hcd : (arg == ("__classdict__" : Str)) = false) (hdt : (tn == ("__debug__" : Str)) = false)
    (hab : attributeBase (.Name arg p4) f X.env (eval (.Name arg p4) X.env) = eval (.Name arg p4) X.env) :
    SuiteOk X [.Return (some (.BinOp (.Call (.Name tn p1) [.Name arg p2] [] p3) .Add (.Tuple [.Attribute (.Name arg p4) f p5] j p6) p7)) p8] (suF X.K X.mg Tl Ft h f) := by
  intro a o cls d pn hz hf
  refine ⟨fun pins s σ H Dn I ⟨hcl, q⟩ => ?_⟩
  subst hcl
  have hc : h ∈ exNames := by
    have : ∀ q ∈ exFields, q.1 ∈ exNames := by decide
    exact this _ hm
  exact (pss_one (ps_ret (pe_op opAddU (pe_term tf hr hc hz hf hg hN hv hd hcd hdt) (pe_tup (pa_cons (pe_xf (ef.fld _ hm).1 (ef.fld _ hm).2 hz.zc hf (pe_var (i := 1) hN hv hd hcd) hab) pa_nil (by rfl)))))).run pins s σ H Dn I q
theorem su_K {p1 p2 p3 p7 : Pos} (tf : TermF X.prog X.w X.K X.mg X.base tn arg Tl Ft k) (hr : Room k X.A) (hg : Gl X tn) (hN : X.N[1]? = some arg) (hv : Vis X.env.scope arg) (hd : (arg == ("__debug__" : Str)) = false) (hcd : (arg == ("__classdict__" : Str)) = false) (hdt : (tn == ("__debug__" : Str)) = false) :
    SuiteOk X [.Return (some (.Call (.Name tn p1) [.Name arg p2] [] p3)) p7] (suK X.K X.mg Tl Ft) := by
  intro a o cls d pn hz hf
  refine ⟨fun pins s σ H Dn I ⟨c, hc, hcl, q⟩ => ?_⟩
  subst hcl
  exact (pss_one (ps_ret (pe_term tf hr hc hz hf hg hN hv hd hcd hdt))).run pins s σ H Dn I q
theorem takes4 {X : Cx} : L2N.Takes X no4 := fun _ _ ⟨_, _, _, _, _, _, _, _, _, _, _, _, _, _, _, _, w⟩ => w.elim
theorem told_gives {Ng : List Str} {x deed q : Str} {sg : Scope} {g : Addr} {cdg : Value} {h0 : ExceptHandler} {hs : List ExceptHandler} {c1 c2 c3 pos : Pos} (hNd : Ng.Nodup) (h1 : Ng[1]? = some arg) (hl : sg.names.lookup arg = some .local) (hst : ∀ f : Addr, L2.start Ng [V.ref f] = [some (V.ref f), none])
    (hh : ∀ (s : Shared) (H : Hp), Room (k + 1) (X.A.deeper (envOfC x sg s.heap.objs.size g cdg)) → AsOk (cxOf C8.CX0 X.prog X.w X.K X.mg X.base Ng x sg g cdg X.A X.stack s H C8.E0).nox arg (h0 :: hs) (suL X.K X.mg Tl Ft)) :
    GivesN X k Ng x sg g cdg [.Try [.Return (some (.Call (.Name deed c1) [] [] c2)) c3] (h0 :: hs) [] [] pos] deed q (TTtold X.K X.mg Tl Ft) := by
  intro f c' s H Q tl hr act hc h
  refine ⟨_, pss_one (ps_try_asL (X := (cxOf C8.CX0 X.prog X.w X.K X.mg X.base Ng x sg g cdg X.A X.stack s H C8.E0).nox) (i := 1) (n := arg)
    (tb := fun W Dn σ H => ∃ Ech : XK, (∀ cls d H', Ech cls d H' → W cls d σ H') ∧ σ[0]? = some (some (.ref f)) ∧ H c' = some (LamX.CodeO c' q) ∧ tl Ech H Dn.rt) rfl rfl hNd h1 hl takes4 (fun W pn xe tk _ => ?_) (hh s H hr)), ?_⟩
  · exact ⟨fun pins s' σ H' Dn I ⟨Ech, hW, e1, e2, e3⟩ => (pss_one (ps_ret (pos := c3) (act W pn xe Ech c1 c2 tk))).run pins s' σ H' Dn I ⟨e1, e2, hW, e3⟩⟩
  · refine ⟨_, fun cls d H' z => ?_, by rw [hst]; rfl, hc, h f⟩
    rw [hst]
    exact z
end
end VD

set_option Elab.async false
set_option linter.all false
set_option maxRecDepth 100000
set_option maxHeartbeats 4000000
namespace VD
open PySem PySem.Spec PyProof.Rows L2

section
variable {G : Gx} {σ : St} {H B : Hp} {S : Sl} {F : List Addr} {Q : VK} {P : Program} {w : World} {base : Heap} {tn arg : Str} {Ft : Str → Fn} {k : Nat}
/-- the namer's call, with the caller's state apart -/
theorem term_go (tf : TermF P w G.K G.mg base tn arg G.T.l Ft k) {c : Str} {a : Addr} {d : Option Addr} {σ1 : St} (hc : c ∈ exNames) (st : Sta G σ H S [] B F) (h1 : σ1[1]? = some (some (.ref a))) (hd : ∀ dx, d = some dx → ∃ fs, B dx = some (.xd fs))
    (kk : ∀ v H' B' F', Sta G σ H' S [(v, .fr (refD c))] B' F' → Ch H B F H' B' F' → Q v H') : teT G.K G.mg G.T.l Ft c a d σ1 H Q := by
  refine ⟨.ref a, h1, [.fr .exc], B, [], _, _, rfl, ⟨st.sub, st.tabs, ⟨[], [], .nil, .cons (.fr (.exc rfl hd)) .nil, .refl _⟩, List.nodup_nil, (fun _ h => nomatch h)⟩, tf.ev c hc, fun v H' B' F' s1 c1 => ?_⟩
  have r1 : Rep ⟨G.K, G.mg, ⟨G.T.l, some a, d⟩⟩ B' (refD c) v := (s1.held (List.mem_cons_self ..)).rep
  have r2 : Rep G B' (refD c) v := by
    cases r1 with
    | tup h r =>
      refine .tup h ?_
      cases r with
      | cons h1 r =>
        cases h1
        cases r with
        | cons h2 r =>
          cases h2
          cases r
          exact .cons .str (.cons .str .nil)
  have s2 : Sta G [] H' [] [(v, .fr (refD c))] B' [] := ⟨s1.sub, s1.tabs, ⟨[], [], .nil, .cons (.fr r2) .nil, .refl _⟩, List.nodup_nil, (fun _ h => nomatch h)⟩
  have c2 : Ch H B [] H' B' [] := ⟨c1.keep, c1.le, (fun _ h => nomatch h), c1.fresh⟩
  obtain ⟨j1, j2⟩ := s2.join2 c2 st (by simp) st.nd
  exact kk v H' B' _ j1 j2
theorem exc_field {c : Str} (h : c ∈ exFields.map (·.1)) : ∃ f, exFields.lookup c = some f ∧ (c, f) ∈ exFields := by
  have : ∀ c ∈ exFields.map (·.1), (exFields.lookup c).isSome = true ∧ ∀ f, exFields.lookup c = some f → (c, f) ∈ exFields := by
    intro c hc
    simp only [exFields, List.map_cons, List.map_nil, List.mem_cons, List.not_mem_nil, or_false] at hc
    rcases hc with rfl | rfl | rfl | rfl | rfl <;> exact ⟨rfl, fun f e => by cases e; decide⟩
  obtain ⟨h1, h2⟩ := this c h
  obtain ⟨f, e⟩ := Option.isSome_iff_exists.mp h1
  exact ⟨f, e, h2 f e⟩
theorem told_go {m : M W} (ef : ExF G.K G.mg) (tf : TermF P w G.K G.mg base tn arg G.T.l Ft k) {Xw : WX} (h : rdG kW G σ H Xw Q (mTold m)) : TTtold G.K G.mg G.T.l Ft (fun E H' Q' => rdG kW G σ H' (fun cls d _ H => E cls d H) Q' m) H Q := by
  intro f
  obtain ⟨S, B, F, o, S', st, e, wn⟩ := h
  unfold mTold at e
  cases em : m S with
  | none => rw [em] at e; cases e
  | some r =>
    obtain ⟨r, S1⟩ := r
    rw [em] at e
    cases r with
    | ok x =>
      cases e
      exact ⟨S, B, F, _, _, st, em, wn⟩
    | ex c =>
      have e : (toldD c).map (fun d => (Res.ok (W.fr d), S1)) = some (o, S') := e
      obtain ⟨d0, ed, e2⟩ := Option.map_eq_some_iff.mp e
      cases e2
      refine ⟨S, B, F, _, S', st, em, fun cls d H' B' F' st' c' xr => ?_⟩
      obtain ⟨C, mC, rfl, xr⟩ := xr
      unfold toldD at ed
      split at ed
      · rename_i hc
        -- the class
        have eC : C = He.ga G.K c.c := by
          have z := ef.glo c.c (List.mem_cons_of_mem _ hc)
          rw [mC] at z
          exact Value.ref.inj (Option.some.inj z)
        subst eC
        have kont : ∀ {v : V} {H2 B2 : Hp} {F2 : List Addr}, Sta G σ H2 S' [(v, .fr d0)] B2 F2 → Ch H' B' F' H2 B2 F2 → Q v H2 := fun s2 c2 => wn _ _ _ _ trivial s2 (c'.trans c2)
        -- one clause that has fields
        have step : ∀ {l : List (Value × Suite)} (q : Str × Str), q ∈ exFields → (c.c ≠ q.1 → wAsL G.K 1 no4 { nx := fun _ H'' => Q .non H'', rt := Q } l (.ref (He.ga G.K c.c)) d [some (.ref f), none] H') →
            wAsL G.K 1 no4 { nx := fun _ H'' => Q .non H'', rt := Q } ((Value.ref (He.ga G.K q.1), suF G.K G.mg G.T.l Ft q.1 q.2) :: l) (.ref (He.ga G.K c.c)) d [some (.ref f), none] H' := by
          intro l q hq rest
          refine ⟨c.c == q.1, ef.exm _ hc _ (List.mem_map.mpr ⟨q, hq, rfl⟩), fun hb a ha => ?_, fun hb => rest fun z => by rw [z] at hb; simp at hb⟩
          have ec : c.c = q.1 := eq_of_beq hb
          obtain ⟨f2, l2, _⟩ := exc_field (c := c.c) (by rw [ec]; exact List.mem_map.mpr ⟨q, hq, rfl⟩)
          have ef2 : f2 = q.2 := by
            have : ∀ q ∈ exFields, exFields.lookup q.1 = some q.2 := by
              intro q hq
              simp only [exFields, List.mem_cons, List.not_mem_nil, or_false] at hq
              rcases hq with rfl | rfl | rfl | rfl | rfl <;> rfl
            have z := this q hq
            rw [← ec, l2] at z
            exact Option.some.inj z
          subst ef2
          rw [l2] at ed
          cases hfs : c.fs with
          | none => rw [hfs] at ed; cases ed
          | some fx =>
            obtain ⟨f', x⟩ := fx
            rw [hfs] at ed xr
            have ed1 : (if f' = q.2 then some (D.tup [.str "refused", .str c.c, x]) else none) = some d0 := ed
            by_cases ef' : f' = q.2
            · rw [if_pos ef'] at ed1
              subst ef'
              have ed2 : D.tup [.str "refused", .str c.c, x] = d0 := Option.some.inj ed1
              subst ed2
              obtain ⟨dx, v, rfl, hB, rx⟩ := xr
              refine ⟨by rw [ec], ?_⟩
              rw [← ec]
              refine term_go tf hc st' rfl (fun dx' z => by cases z; exact ⟨_, hB⟩) fun v1 H1 B1 F1 s1 c1 => ?_
              have h1 : B1 dx = some (.xd [(q.2, v)]) := c1.le _ _ hB
              have h2 : H1 dx = some (.xd [(q.2, v)]) := by
                rcases s1.sub _ _ h1 with z | ⟨z, _⟩
                · exact z
                · exact z.elim
              refine ⟨.ref a, rfl, rfl, rfl, dx, [(q.2, v)], v, rfl, h2, by simp [List.lookup], by show 1 ≤ sizeLine; rw [sizeLine_eq]; omega, ?_⟩
              refine New.tup (G := G) (B := B1) (ds := [x]) (Q := fun y H2 => rAddU G.K v1 y H2 Q) (s1.next fun y H2 B2 F2 s2 c2 => ?_) s1.sub (.cons (rx.mono c1.le) .nil)
              refine op2Add s2.sub (s2.held (w := .fr (refD c.c)) (List.mem_cons_of_mem _ (List.mem_cons_self ..))) (s2.held (List.mem_cons_self ..)) (w := .fr (.tup [.str "refused", .str c.c, x])) rfl (s2.next fun z H3 B3 F3 s3 c3 => ?_)
              obtain ⟨F4, s4, c4⟩ := Sta.drop2 (s3.turn (ts' := (y, .fr (.tup [x])) :: (v1, .fr (refD c.c)) :: [(z, .fr (.tup [.str "refused", .str c.c, x]))]) (List.Perm.trans (List.Perm.swap ..) (List.Perm.cons _ (List.Perm.swap ..))))
              obtain ⟨F5, s5, c5⟩ := Sta.drop2 s4
              exact kont s5 (c1.trans (c2.trans (c3.trans (c4.trans c5))))
            · rw [if_neg ef'] at ed1; cases ed1
        refine step ("Short", "who") (by decide) fun n1 => step ("NoEntry", "who") (by decide) fun n2 => step ("Clash", "torn") (by decide) fun n3 => step ("Unled", "named") (by decide) fun n4 => step ("BadText", "at") (by decide) fun n5 => ?_
        refine ⟨true, ef.kee _ hc, fun _ a ha => ⟨c.c, hc, rfl, ?_⟩, fun z => by cases z⟩
        have ln : exFields.lookup c.c = none := by
          cases q : exFields.lookup c.c with
          | none => rfl
          | some f2 =>
            exfalso
            have e1 : c.c ∈ exFields.map (·.1) := by
              refine Classical.byContradiction fun z => ?_
              simp only [exFields, List.map_cons, List.map_nil, List.mem_cons, List.not_mem_nil, or_false, not_or] at z
              obtain ⟨z1, z2, z3, z4, z5⟩ := z
              have y : ∀ a : Str, c.c ≠ a → (c.c == a) = false := fun a h => by simpa using h
              simp [exFields, List.lookup, y _ z1, y _ z2, y _ z3, y _ z4, y _ z5] at q
            simp only [exFields, List.map_cons, List.map_nil, List.mem_cons, List.not_mem_nil, or_false] at e1
            rcases e1 with z | z | z | z | z
            · exact n1 z
            · exact n2 z
            · exact n3 z
            · exact n4 z
            · exact n5 z
        rw [ln] at ed
        cases hfs : c.fs with
        | some fx => rw [hfs] at ed; cases ed
        | none =>
          rw [hfs] at ed xr
          cases ed
          obtain rfl : d = none := xr
          exact term_go tf hc st' rfl (fun dx z => by cases z) fun v1 H1 B1 F1 s1 c1 => kont s1 c1
      · cases ed
end
end VD

set_option Elab.async false
set_option linter.all false
set_option maxRecDepth 100000
set_option maxHeartbeats 4000000
namespace VD
open PySem PySem.Spec PyProof.Rows L2

/-! ### the head's hook, with few addresses -/
def refsV (o : Obj) : List Addr := match o.data with
  | .dict es _ => es.toList.flatMap fun e => He.refV e.val
  | .func fd => He.refV fd.code ++ (He.refV fd.defaults ++ He.refV fd.kwdefaults)
  | .cls cd => [cd.ns]
  | .seq its _ => its.toList.flatMap He.refV
  | _ => []
def stepV (g : Addr → Option Obj) (as : List Addr) : List Addr := as.flatMap fun a => match g a with
  | some o => refsV o
  | none => []
def levV (g : Addr → Option Obj) : Nat → List Addr → List Addr
  | 0, as => as
  | n + 1, as => as ++ levV g n (stepV g as)
def asV (g : Addr → Option Obj) : List Addr := levV g 5 [mainGlobals] ++ [cStatics]
def frV (g : Addr → Option Obj) : PySem.W.Frag := He.frT g (asV g)
structure SaysV (fa : List He.Fa) (fn : List He.DefD) (tf : List He.Defn) (ex : PySem.W.Frag → Bool) (h : Heap) (K : PySem.W.Frag) : Prop where
  d : He.SaysD fa fn K
  more : ex K = true
  hd : ∀ p ∈ tf, PySem.W.codeHdIn K (He.cT K p).1 (He.cT K p).2 = true
  out : ∀ p ∈ tf, K.lookup (He.cT K p).2 = none
  empty : ∀ p ∈ tf, h.get? (He.cT K p).2 = some { cls := .none, data := .fields #[] }
def obsV (fa : List He.Fa) (fn : List He.DefD) (tf : List He.Defn) (ex : PySem.W.Frag → Bool) (g : Addr → Option Obj) (K : PySem.W.Frag) : He.AlD × Bool := (He.obsD fa fn K, ex K && He.tabsB g tf K)
theorem saysV_of {fa : List He.Fa} {fn : List He.DefD} {tf : List He.Defn} {ex : PySem.W.Frag → Bool} {h : Heap} (e : obsV fa fn tf ex h.get? (frV h.get?) = (He.valD fn, true)) : SaysV fa fn tf ex h (frV h.get?) := by
  have e1 : He.obsD fa fn (frV h.get?) = He.valD fn := congrArg (fun z : He.AlD × Bool => z.1) e
  have e2 : (ex (frV h.get?) && He.tabsB h.get? tf (frV h.get?)) = true := congrArg (fun z : He.AlD × Bool => z.2) e
  obtain ⟨h1, h2⟩ := He.ba e2
  have key : ∀ p ∈ tf, PySem.W.codeHdIn (frV h.get?) (He.cT (frV h.get?) p).1 (He.cT (frV h.get?) p).2 = true ∧ ∃ o, h.get? (He.cT (frV h.get?) p).2 = some o ∧ He.emptyTab o = true := fun p hp => by
    obtain ⟨h3, h4⟩ := He.ba (List.all_eq_true.mp h2 p hp)
    refine ⟨h3, ?_⟩
    cases q : h.get? (He.cT (frV h.get?) p).2 with
    | none => rw [q] at h4; cases h4
    | some o => rw [q] at h4; exact ⟨o, rfl, h4⟩
  exact ⟨e1, h1, fun p hp => (key p hp).1, fun p hp => let ⟨_, o, q, z⟩ := key p hp; He.frT_none q z, fun p hp => let ⟨_, o, q, z⟩ := key p hp; by rw [q, He.emptyTab_eq z]⟩
def hookV (fa : List He.Fa) (fn : List He.DefD) (tf : List He.Defn) (ex : PySem.W.Frag → Bool) : PySem.W.Hook where
  α := He.AlD × Bool
  obs := fun s => obsV fa fn tf ex s.heap.get? (frV s.heap.get?)
  val := fun _ => (He.valD fn, true)
  says := fun _ h => ∃ K : PySem.W.Frag, K.In h ∧ SaysV fa fn tf ex h K
  of := fun _ _ e => ⟨_, He.frT_in, saysV_of e⟩
  keeps := fun _ _ _ ⟨K, hK, c⟩ k => ⟨K, PySem.W.Frag.In.keeps hK k, ⟨c.d, c.more, c.hd, c.out, fun p hp => k _ _ (c.empty p hp)⟩⟩
theorem obsV_eq {fa : List He.Fa} {fn : List He.DefD} {tf : List He.Defn} {ex : PySem.W.Frag → Bool} {g : Addr → Option Obj} {s : Shared} (h : ∀ a, g a = s.heap.get? a) : obsV fa fn tf ex g (frV g) = (hookV fa fn tf ex).obs s := by
  have e : g = s.heap.get? := funext h
  rw [e] <;> rfl
/-! ### the law's end, with tables -/
theorem walk_ofX {l : PySem.W.OpenLaw} {n k : Nat} {q : Program} {loose : List Str} {XP : (Str → Option Value) → Heap → Prop} {YP : World → Heap → Prop} {d : DefRec} {x : Str}
    (hn : l.most = some n) (hn2 : n ≤ sizeLine) (hdf : d.params.defaults = []) (hr : Room k callerA)
    (F : ∀ (w : World) (mg : Str → Option Value) (fa : Addr) (h : Heap), YP w h → h.Ns mainGlobals mg → mg d.name = some (.ref fa) →
      ∃ (K : PySem.W.Frag) (cs : List (Addr × Addr)) (fd : FuncData) (sp : Sp), K.In h ∧ (∀ p ∈ cs, h.get? p.2 = some { cls := .none, data := .fields #[] }) ∧ (∀ p ∈ cs, K.lookup p.2 = none) ∧ (∀ p ∈ cs, PySem.W.CodeHd h p.1 p.2) ∧
        (∀ (s : Shared) (u : Value), BindsTo s fd ⟨[u], []⟩ [(x, u)]) ∧
        (∀ (H : Hp) (a : Addr) (ns : List Int), ns.length ≤ n → (∀ p ∈ cs, H p.2 = some (.tbl #[])) → SqL K H a (ns.map V.int) → sp [.ref a] H (fun v _ => v = .bl true) fun _ _ _ => False) ∧
        ∀ base : Heap, K.In base → base.Ns mainGlobals mg → (∀ p ∈ cs, LamX.TabB base mg p.1 p.2) → FnOk l.prog w K mg base (L2N.CX l.prog w) k fa fd [x] sp) :
    PySem.W.WalkO q loose XP YP l.row.toRowW d [] (fun f vs => PySem.call f vs) := by
  refine Att.attach_call hn hdf fun w s₀ s₁ mg mb fa o pm cd doc a vs ns G Y ho hd hcd hmg hobj hints hlen hg => ?_
  obtain ⟨K, cs, fd, sp, KX, hT, nT, C, hb, hsp, hF⟩ := F w mg fa _ Y G.T.g hmg
  exact LamX.law_callTs KX G.T.g G.T.b G.T.builtins G.T.nolimit hg hT nT C G.T.bmain hobj hints (Nat.le_trans hlen hn2) hr hF hb (fun H hH hS => hsp H a ns hlen hH hS) fun H e s' ⟨_, _, _, _, _, _, _, _, _, _, _, _, z⟩ => z
/-- the script's reading, the tables empty -/
theorem sp_lawX {K : PySem.W.Frag} {mg : Str → Option Value} {F : Fn} {H : Hp} {a : Addr} {ns : List Int} {Tl : List (Addr × Str)} (hT : ∀ p ∈ Tl, H p.1 = some (.tbl #[])) (hS : SqL K H a (ns.map V.int)) (h : ∃ ws, F [.fr (.scr ns)] = some (.ok (.fr (.bl true)), ws)) :
    spV ⟨K, mg, ⟨Tl, none, none⟩⟩ F [.ref a] H (fun v _ => v = .bl true) fun _ _ _ => False := by
  obtain ⟨ws, e⟩ := h
  have ⟨B, sb, hB⟩ : ∃ B : Hp, Sub B H ∧ SqL K B a (ns.map V.int) := by
    rcases hS with h | h
    · refine ⟨fun b => if b = a then H a else none, ⟨fun b o e => ?_, fun b ps e => ?_⟩, ?_⟩
      · by_cases z : b = a
        · subst z; simp at e; exact .inl e
        · simp [z] at e
      · by_cases z : b = a
        · subst z
          simp at e
          rcases h with h | ⟨ob, h⟩ <;> rw [h] at e <;> cases e
        · simp [z] at e
      · rcases h with h | ⟨ob, h⟩
        · exact .inl (.inl (by simp [h]))
        · exact .inl (.inr ⟨ob, by simp [h]⟩)
    · exact ⟨fun _ => none, ⟨(fun _ _ e => nomatch e), (fun _ _ e => nomatch e)⟩, .inr h⟩
  have st : Sta ⟨K, mg, ⟨Tl, none, none⟩⟩ [] H [] [(.ref a, .fr (.scr ns))] B [] := ⟨sb, (fun p hp => LamX.TabS.nil (hT p hp)), ⟨[], [], .nil, .cons (.fr (.scr hB)) .nil, .refl _⟩, List.nodup_nil, (fun _ h => nomatch h)⟩
  exact ⟨[.fr (.scr ns)], B, [], _, ws, rfl, st, e, fun v H' B' F' st' _ => (st'.held (List.mem_cons_self ..)).bl⟩
/-! ### the exceptions' facts as one test -/
def exTest (K : PySem.W.Frag) : Bool :=
  ((("KeepError" : Str) :: exNames).all fun h => He.eqO (PySem.W.nsIn K mainGlobals h) (some (some (.ref (He.ga K h))))) &&
  ((exNames.all fun c => (exFields.map (·.1)).all fun h => decide (PySem.W.exmOne K (.ref (He.ga K c)) (.ref (He.ga K h)) = some (c == h))) &&
  ((exNames.all fun c => decide (PySem.W.exmOne K (.ref (He.ga K c)) (.ref (He.ga K "KeepError")) = some true)) &&
  (exFields.all fun q => xfB K (He.ga K q.1) && decide (PySem.W.findIn K (.ref (He.ga K q.1)) q.2 = some none))))
theorem exTest_ok {K : PySem.W.Frag} {h : Heap} {mg : Str → Option Value} (X : K.In h) (G : h.Ns mainGlobals mg) (t : exTest K = true) : ExF K mg := by
  unfold exTest at t
  simp only [Bool.and_eq_true, List.all_eq_true, decide_eq_true_eq] at t
  obtain ⟨h1, h2, h3, h4⟩ := t
  exact ⟨fun c hc => PySem.W.mg_of X G (He.eqO_ok (h1 c hc)), fun c hc h hh => h2 c hc h hh, h3, fun q hq => ⟨xfB_ok (h4 q hq).1, (h4 q hq).2⟩⟩
/-- .. of isinstance of them -/
def exsB (K : PySem.W.Frag) (D : Addr) : Bool :=
  decide (PySem.W.findIn K (.ref D) "__getattribute__" = some (some (.builtin "BaseException.__getattribute__"))) && (decide (PySem.W.findIn K (.ref D) "__getattr__" = some none) && (decide (PySem.W.subIn K (.ref D) (.type "BaseException") = some true) && (PySem.W.hasDictIn K D &&
  (decide (PySem.W.findIn K (.ref D) "__class__" = some (some (.builtin "object.__class__"))) && (decide (PySem.W.specialIn K (.builtin "object.__class__") "__get__" = some (some (.builtin "getset_descriptor.__get__"))) && (decide (PySem.W.takesIn K (.builtin "object.__class__") = some true) && decide (PySem.W.mroIn K D (.type "object") = some true)))))))
def isTest (K : PySem.W.Frag) : Bool :=
  (exNames.all fun c => exsB K (He.ga K c)) && ((exNames.all fun c => exNames.all fun h => decide (PySem.W.kitOne K (.ref (He.ga K c)) (.ref (He.ga K h)) = some (c == h))) && (exNames.all fun c => decide (PySem.W.kitOne K (.ref (He.ga K c)) (.type "ValueError") = some true)))
structure IsF (K : PySem.W.Frag) : Prop where
  c : ∀ c ∈ exNames, ExcC K (He.ga K c)
  is : ∀ c ∈ exNames, ∀ h ∈ exNames, PySem.W.kitOne K (.ref (He.ga K c)) (.ref (He.ga K h)) = some (c == h)
  ve : ∀ c ∈ exNames, PySem.W.kitOne K (.ref (He.ga K c)) (.type "ValueError") = some true
theorem isTest_ok {K : PySem.W.Frag} (t : isTest K = true) : IsF K := by
  unfold isTest exsB at t
  simp only [Bool.and_eq_true, List.all_eq_true, decide_eq_true_eq] at t
  obtain ⟨h1, h2, h3⟩ := t
  exact ⟨fun c hc => let ⟨a, b, d, e, f, g, h, i⟩ := h1 c hc; ⟨a, b, d, e, f, g, h, i⟩, h2, h3⟩
def valB (x : Option PySem.W.CFound) : Bool := match x with
  | some (.val (.builtin n)) => n == "ValueError.__init__"
  | _ => false
theorem valB_ok {x : Option PySem.W.CFound} (h : valB x = true) : x = some (.val (.builtin "ValueError.__init__")) := by
  unfold valB at h
  split at h
  · rw [eq_of_beq h]
  · cases h
/-- .. of raising those with no field, those with one -/
def raTest (K : PySem.W.Frag) : Bool :=
  ((exNames.filter fun c => !(exFields.map (·.1)).contains c).all fun c => PySem.W.excIn K (He.ga K c) He.veBase "ValueError.__new__" && (PySem.W.keepIn K (.ref (He.ga K c)) && (decide (PySem.W.subIn K (.ref (He.ga K c)) (.type "BaseException") = some true) && decide (PySem.W.typeIn K (.ref (He.ga K c)) = some (.type "type"))))) &&
  ((exFields.all fun q => oexB K (He.ga K q.1) && (decide (PySem.W.findIn K (.ref (He.ga K q.1)) "__init__" = some (some (.ref (He.ma K (He.ga K q.1) "__init__")))) && decide (PySem.W.typeIn K (.ref (He.ma K (He.ga K q.1) "__init__")) = some (.type "function")))) &&
  (PySem.W.readsIn K (He.ga K "KeepError") (.type "type") && (decide (PySem.W.specialIn K (.ref (He.ga K "KeepError")) "__getattribute__" = some (some (.builtin "type.__getattribute__"))) && valB (PySem.W.findCls K (.ref (He.ga K "KeepError")) (.type "type") "__init__"))))
structure RaF (K : PySem.W.Frag) : Prop where
  e0 : ∀ c ∈ exNames, c ∉ exFields.map (·.1) → PySem.W.excIn K (He.ga K c) He.veBase "ValueError.__new__" = true ∧ PySem.W.keepIn K (.ref (He.ga K c)) = true ∧ PySem.W.subIn K (.ref (He.ga K c)) (.type "BaseException") = some true ∧ PySem.W.typeIn K (.ref (He.ga K c)) = some (.type "type")
  e1 : ∀ q ∈ exFields, OexC K (He.ga K q.1) ∧ PySem.W.findIn K (.ref (He.ga K q.1)) "__init__" = some (some (.ref (He.ma K (He.ga K q.1) "__init__"))) ∧ PySem.W.typeIn K (.ref (He.ma K (He.ga K q.1) "__init__")) = some (.type "function")
  rd : PySem.W.readsIn K (He.ga K "KeepError") (.type "type") = true
  ga : PySem.W.specialIn K (.ref (He.ga K "KeepError")) "__getattribute__" = some (some (.builtin "type.__getattribute__"))
  vi : PySem.W.findCls K (.ref (He.ga K "KeepError")) (.type "type") "__init__" = some (.val (.builtin "ValueError.__init__"))
theorem raTest_ok {K : PySem.W.Frag} (t : raTest K = true) : RaF K := by
  unfold raTest at t
  simp only [Bool.and_eq_true, List.all_eq_true, decide_eq_true_eq, List.mem_filter, Bool.not_eq_true', List.contains_eq_mem, decide_eq_false_iff_not] at t
  obtain ⟨h1, h2, h3, h4, h5⟩ := t
  exact ⟨fun c hc hn => let ⟨a, b, d, e⟩ := h1 c ⟨hc, hn⟩; ⟨a, b, d, e⟩, fun q hq => let ⟨a, b, d⟩ := h2 q hq; ⟨oexB_ok a, b, d⟩, h3, h4, valB_ok h5⟩
end VD

set_option Elab.async false
set_option linter.all false
set_option maxRecDepth 100000
set_option maxHeartbeats 4000000
namespace VD
open PySem PySem.Spec PyProof.Rows L2

/-! ### defs whose code object is known -/
section
variable {P : Program} {w : World} {K : PySem.W.Frag} {mg : Str → Option Value} {base : Heap} {T : Tx}
theorem fnVc {at_ : He.Defn} {x qual : Str} {params : Arguments} {body : List Stmt} {scope : Scope} {dvs : List V} {kws : List (Str × V)} {fd : FuncData} {N ps : List Str} {k : Nat} {m : MS} (Fd : FunD K x qual params body scope dvs kws (He.fAd K at_) fd) (Sc : FnScope N ps scope)
    (hbody : ∀ (cdv : Value) (A : Around) (outer : List Env) (s : Shared) (H : Hp) (E : XK), cdv = .ref (He.codeOf K at_) → Room k (A.deeper (envOfC qual scope s.heap.objs.size (He.fAd K at_) cdv)) →
      PSL T (cxOf (L2N.CX P w) P w K mg base N qual scope (He.fAd K at_) cdv A outer s H E) (fun cls d _ H => E cls d H) ps.length body m) : FnOk P w K mg base (L2N.CX P w) (k + 1) (He.fAd K at_) fd ps (spV ⟨K, mg, T⟩ (mkF N.length ps.length m)) := by
  obtain ⟨oc, od, dV, kV, doc, pm, an, cdv, ct, osl, rfl, lk, hcd, _, _⟩ := Fd.ex
  refine fn_of lk hcd Sc (fun vs H Q E ⟨ws, _, _, _, _, hl, _, e, _⟩ => by rw [← hl]; exact mkF_len e) fun A outer s H vs Q E hr h => ⟨_, hbody cdv A outer s H E ?_ hr, spV_in h⟩
  obtain ⟨c, rfl⟩ := He.codeIn_ref hcd
  rw [He.codeOf_eq lk rfl]
theorem FnV.ofC {params : Arguments} {body : List Stmt} {scope : Scope} {N ps : List Str} {x qual : Str} {k : Nat} {m : MS} (hm : mg x = some (.ref (He.ga K x))) (Fd : ∃ fd, FunD K x qual params body scope [] [] (He.ga K x) fd) (Sc : FnScope N ps scope)
    (hb : ∀ (kV doc pm : Value) (an : Option Addr) (cdv ct : Value) (us : List Value), us.length = ps.length → bindArgs (PySem.W.fnOf x qual params body scope .none kV doc pm an cdv ct) ⟨us, []⟩ = pure (ps.zip us))
    (hbody : ∀ (cdv : Value) (A : Around) (outer : List Env) (s : Shared) (H : Hp) (E : XK), cdv = .ref (He.codeOf K (x, none)) → Room k (A.deeper (envOfC qual scope s.heap.objs.size (He.ga K x) cdv)) →
      PSL T (cxOf (L2N.CX P w) P w K mg base N qual scope (He.ga K x) cdv A outer s H E) (fun cls d _ H => E cls d H) ps.length body m) : FnV P w K mg base T x ps (k + 1) (mkF N.length ps.length m) := by
  obtain ⟨fd, F⟩ := Fd
  exact ⟨hm, F.kp, fd, F.bindsN hb, fnVc (at_ := (x, none)) F Sc hbody⟩
theorem fnK_ofC {c m' : Str} {params : Arguments} {body : List Stmt} {scope : Scope} {N ps : List Str} {x qual : Str} {k : Nat} {m : MS} (Fd : ∃ fd, FunD K x qual params body scope [] [] (He.ma K (He.ga K c) m') fd) (Sc : FnScope N ps scope)
    (hb : ∀ (kV doc pm : Value) (an : Option Addr) (cdv ct : Value) (us : List Value), us.length = ps.length → bindArgs (PySem.W.fnOf x qual params body scope .none kV doc pm an cdv ct) ⟨us, []⟩ = pure (ps.zip us))
    (hbody : ∀ (cdv : Value) (A : Around) (outer : List Env) (s : Shared) (H : Hp) (E : XK), cdv = .ref (He.codeOf K (c, some m')) → Room k (A.deeper (envOfC qual scope s.heap.objs.size (He.ma K (He.ga K c) m') cdv)) →
      PSL T (cxOf (L2N.CX P w) P w K mg base N qual scope (He.ma K (He.ga K c) m') cdv A outer s H E) (fun cls d _ H => E cls d H) ps.length body m) : ∃ fd, Binds K fd ps [] ∧ FnOk P w K mg base (L2N.CX P w) (k + 1) (He.ma K (He.ga K c) m') fd ps (spV ⟨K, mg, T⟩ (mkF N.length ps.length m)) := by
  obtain ⟨fd, F⟩ := Fd
  exact ⟨fd, F.bindsN hb, fnVc (at_ := (c, some m')) F Sc hbody⟩
end
/-- the table of a def that makes lambdas, of the name q -/
structure LamD (K : PySem.W.Frag) (mg : Str → Option Value) (base : Heap) (Tl : List (Addr × Str)) (p : He.Defn) (q : Str) : Prop where
  tb : LamX.TabB base mg (He.codeOf K p) (He.tabOf K (He.codeOf K p))
  mem : (He.tabOf K (He.codeOf K p), q) ∈ Tl
  uq : ∀ r ∈ Tl, r.1 = He.tabOf K (He.codeOf K p) → r.2 = q
/-- all tables -/
abbrev tabL (K : PySem.W.Frag) (tf : List (He.Defn × Str)) : List (Addr × Str) := tf.map fun r => (He.tabOf K (He.codeOf K r.1), r.2)
def tabTest (tf : List (He.Defn × Str)) (K : PySem.W.Frag) : Bool := tf.all fun r => tf.all fun u => !decide (He.tabOf K (He.codeOf K u.1) = He.tabOf K (He.codeOf K r.1)) || decide (u.2 = r.2)
theorem lamD_of {K : PySem.W.Frag} {mg : Str → Option Value} {base : Heap} {tf : List (He.Defn × Str)} {p : He.Defn} {q : Str} (t : tabTest tf K = true) (tb : ∀ r ∈ tf.map fun r => He.cT K r.1, LamX.TabB base mg r.1 r.2) (h : (p, q) ∈ tf) : LamD K mg base (tabL K tf) p q := by
  refine ⟨tb (He.cT K p) (List.mem_map.mpr ⟨(p, q), h, rfl⟩), List.mem_map.mpr ⟨(p, q), h, rfl⟩, fun r hr e => ?_⟩
  obtain ⟨u, hu, rfl⟩ := List.mem_map.mp hr
  have z := List.all_eq_true.mp (List.all_eq_true.mp t (p, q) h) u hu
  simp only [Bool.or_eq_true, Bool.not_eq_true', decide_eq_false_iff_not, decide_eq_true_eq] at z
  exact z.elim (fun n => absurd e n) id
/-- the def that tells -/
structure ToldF (P : Program) (w : World) (K : PySem.W.Frag) (mg : Str → Option Value) (base : Heap) (x : Str) (Tl : List (Addr × Str)) (Ft : Str → Fn) (kt : Nat) : Prop where
  mgx : mg x = some (.ref (He.ga K x))
  ef : ExF K mg
  tf : ∃ tn arg, TermF P w K mg base tn arg Tl Ft kt
  dbg : (x == ("__debug__" : Str)) = false
  def_ : ∃ (deed : Str) (pg : Arguments) (bg : List Stmt) (sg : Scope) (fd : FuncData) (Ng : List Str), FunD K x x pg bg sg [] [] (He.ga K x) fd ∧ Binds K fd [deed] [] ∧ FnScope Ng [deed] sg ∧ Ng[0]? = some deed ∧ Vis sg deed ∧ (deed == ("__debug__" : Str)) = false ∧ (deed == ("__classdict__" : Str)) = false ∧
    ∀ (X : Cx) (k : Nat) (cdg : Value) (q : Str), kt ≤ k + 1 → X.prog = P → X.w = w → X.K = K → X.mg = mg → X.base = base → GivesN X k Ng x sg (He.ga K x) cdg bg deed q (TTtold K mg Tl Ft)
section
variable {T : Tx} {X : Cx} {Xw : WX} {pos : Pos}
theorem pv_told {x : Str} {Ft : Str → Fn} {k kt k' : Nat} {p lpos : Pos} {params : Arguments} {body : Expr} {scope : Scope} {m : M W} {at_ : He.Defn} (td : ToldF X.prog X.w X.K X.mg X.base x T.l Ft kt) (ld : LamD X.K X.mg X.base T.l at_ (X.env.qual ++ "<lambda>")) (hcode : X.env.code = .ref (He.codeOf X.K at_)) (hr : Room k' X.A)
    (hbody : ∀ (A : Around) (outer : List Env) (s : Shared) (H : Hp) (E : XK) (f c' : Addr), Room k (A.deeper (LamX.lamEnv X scope s.heap.objs.size f c')) → PV T (lamCxN X A outer s H E scope f c') (fun cls d _ H => E cls d H) body m)
    (L : LamX.LamS X.env.scope scope) (hg : Gl X x := by rfl) (hk : k + 2 ≤ k' := by decide) (hkt : kt ≤ k + 1 := by decide) (hdef : defaultsOf params X.env = ([], []) := by rfl)
    (hbind : ∀ (q : Str) (cl : List (Str × Addr)) (pm cv ctv : Value), bindArgs (PySem.W.kla_fn "<lambda>" q params body scope cl pm cv ctv) ⟨[], []⟩ = pure [] := by intros; rfl) :
    PV T X Xw (.Call (.Name x p) [.Lambda params body scope lpos] [] pos) (mTold m) := by
  obtain ⟨deed, pg, bg, sg, fd, Ng, Fd, hb, Sg, hNg, hva, h1, h2, hG⟩ := td.def_
  obtain ⟨tn, arg, tf⟩ := td.tf
  refine peImp (pe_lamN (t := fun E σ H Q => rdG kW (gx X T) σ H (fun cls d _ H => E cls d H) Q m) hg td.mgx Fd hb Sg hNg hva (fun cdg => hG X k cdg _ hkt rfl rfl rfl rfl rfl) ld.tb hcode ld.mem ld.uq (hr.mono hk) L hdef hbind (fun A outer s H E f c' hr' => hbody A outer s H E f c' hr') td.dbg h1 h2) fun σ H Q h => ?_
  obtain ⟨S, B, F, o, S', st, e, wn⟩ := h
  refine ⟨st.tabs, fun H1 eN T1 => ?_⟩
  obtain ⟨s1, c1⟩ := st.ext eN T1
  refine told_go (G := gx X T) (P := X.prog) (w := X.w) (base := X.base) td.ef tf (Xw := Xw) ⟨S, B, F, o, S', s1, e, ?_⟩
  cases o with
  | ok a => exact fun b H' B' F' ok st' c' => wn b H' B' F' ok st' (c1.trans c')
  | ex c => exact fun cls d H' B' F' st' c' xr => wn cls d H' B' F' st' (c1.trans c') xr
end
/-! ### the facts, put together -/
section
variable {P : Program} {w : World} {K : PySem.W.Frag} {mg : Str → Option Value} {base : Heap} {T : Tx}
theorem ex0_of (ra : RaF K) (ef : ExF K mg) {c : Str} (hc : c ∈ exNames := by decide) (hn : c ∉ exFields.map (·.1) := by decide) : Ex0 K mg c (He.ga K c) := by
  obtain ⟨h1, h2, h3, h4⟩ := ra.e0 c hc hn
  exact ⟨ef.glo c (List.mem_cons_of_mem _ hc), h1, h2, h3, h4⟩
theorem ex1_of (ra : RaF K) (ef : ExF K mg) {c f who : Str} {k : Nat} {fd : FuncData} (hb : Binds K fd ["self", who] []) (F : FnOk P w K mg base (L2N.CX P w) k (He.ma K (He.ga K c) "__init__") fd ["self", who] (spInit (He.ga K c) f)) (hc : (c, f) ∈ exFields := by decide) : Ex1 P w K mg base c f (He.ga K c) k := by
  obtain ⟨h1, h2, h3⟩ := ra.e1 _ hc
  have hm : c ∈ exNames := by
    have : ∀ q ∈ exFields, q.1 ∈ exNames := by decide
    exact this _ hc
  exact ⟨ef.glo c (List.mem_cons_of_mem _ hm), h1, _, fd, who, h2, h3, hb, F⟩
theorem termF_of {tn arg : Str} {Tl : List (Addr × Str)} {k : Nat} {params : Arguments} {body : List Stmt} {scope : Scope} {N : List Str} {m : Str → MS} (hm : mg tn = some (.ref (He.ga K tn))) (Fd : ∃ fd, FunD K tn tn params body scope [] [] (He.ga K tn) fd) (Sc : FnScope N [arg] scope)
    (hb : ∀ (kV doc pm : Value) (an : Option Addr) (cdv ct : Value) (us : List Value), us.length = [arg].length → bindArgs (PySem.W.fnOf tn tn params body scope .none kV doc pm an cdv ct) ⟨us, []⟩ = pure ([arg].zip us))
    (hbody : ∀ (p : Addr × Obj) (c : Str) (d : Option Addr), c ∈ exNames → L2N.Zn (.ref (He.ga K c)) d p.2 → (∃ vs, p.2.data = .fields vs) → ∀ (cdv : Value) (A : Around) (outer : List Env) (s : Shared) (H : Hp) (E : XK), L2H.Hot1 A p → L2H.RoomH k (A.deeper (envOfC tn scope s.heap.objs.size (He.ga K tn) cdv)) →
      PSL ⟨Tl, some p.1, d⟩ (L2H.cxH (L2N.CX P w) P w K mg base N tn scope (He.ga K tn) cdv A outer s H E p) (fun cls d _ H => E cls d H) [arg].length body (m c))
    (ev : ∀ c ∈ exNames, mkF N.length 1 (m c) [.fr .exc] = some (.ok (.fr (refD c)), [.fr .exc])) : TermF P w K mg base tn arg Tl (fun c => mkF N.length 1 (m c)) (k + 1) := by
  obtain ⟨fd, F⟩ := Fd
  exact ⟨hm, F.kp, fun p c d hc hz hf => ⟨fd, F.bindsN hb, fnVH F Sc (hbody p c d hc hz hf)⟩, ev⟩
end
abbrev lamQ (q : Str) : Str := (q ++ ".<locals>.") ++ "<lambda>"
theorem unitsH {k : Nat} {A : Around} (r : L2H.RoomH k A) : A.units + 64 < cLine := by have := r.un; omega
theorem units1H {k : Nat} {A : Around} (r : L2H.RoomH k A) : A.units + 65 < cLine := by have := r.un; omega
theorem units2H {k : Nat} {A : Around} (r : L2H.RoomH k A) : A.units + 1 < cLine := by have := r.un; omega
end VD

set_option Elab.async false
set_option linter.all false
set_option maxRecDepth 100000
set_option maxHeartbeats 4000000
namespace VD
open PySem PySem.Spec PyProof.Rows L2

/-! ### is, is not: of None, of truths -/
def rIsU : R2 := fun x y H Q => (y = .non ∧ Q (.bl (decide (x = .non))) H) ∨ ∃ a b, x = .bl a ∧ y = .bl b ∧ Q (.bl (decide (a = b))) H
def rNotU : R2 := fun x y H Q => (y = .non ∧ Q (.bl (!decide (x = .non))) H) ∨ ∃ a b, x = .bl a ∧ y = .bl b ∧ Q (.bl (!decide (a = b))) H
theorem opIsU {X : Cx} : OpR X (compareOp .Is) rIsU := op_isN.or op_is_bl
theorem opNotU {X : Cx} : OpR X (compareOp .IsNot) rNotU := op_notN.or op_isnot_bl
def rvIsU : W → W → Option W := fun x y => if y.isNon then some (.fr (.bl x.isNon)) else match x, y with
  | .fr (.bl a), .fr (.bl b) => some (.fr (.bl (decide (a = b))))
  | _, _ => none
def rvNotU : W → W → Option W := fun x y => if y.isNon then some (.fr (.bl (!x.isNon))) else match x, y with
  | .fr (.bl a), .fr (.bl b) => some (.fr (.bl (!decide (a = b))))
  | _, _ => none
theorem op2IsU {G : Gx} : Op2 G rIsU rvIsU := fun {B H x y w v u Q} s vx vy e n => by
  unfold rvIsU at e
  split at e
  · cases e
    exact .inl ⟨isNon_v vy (by assumption), by rw [vx.isNon]; exact n.bl s⟩
  · split at e
    · cases e
      exact .inr ⟨_, _, vx.bl, vy.bl, n.bl s⟩
    · cases e
theorem op2NotU {G : Gx} : Op2 G rNotU rvNotU := fun {B H x y w v u Q} s vx vy e n => by
  unfold rvNotU at e
  split at e
  · cases e
    exact .inl ⟨isNon_v vy (by assumption), by rw [vx.isNon]; exact n.bl s⟩
  · split at e
    · cases e
      exact .inr ⟨_, _, vx.bl, vy.bl, n.bl s⟩
    · cases e
end VD

set_option Elab.async false
set_option linter.all false
set_option maxRecDepth 100000
set_option maxHeartbeats 0
namespace VD
open PySem PySem.Spec PyProof.Rows L2

/-! ### plain laws: ends looked at -/
def outS (r : Option (Flo × Sl)) : Option (Nat × Option (Option W)) := match r with
  | some (.nx, S) => some (S.length, S.head?)
  | _ => none
theorem outS_ok {r : Option (Flo × Sl)} {n : Nat} {h : Option (Option W)} (e : outS r = some (n, h)) : ∃ S, r = some (.nx, S) ∧ S.length = n ∧ S.head? = h := by
  unfold outS at e
  split at e
  · cases e
    exact ⟨_, rfl, rfl, rfl⟩
  · cases e
/-- the shape of all laws -/
theorem law_frame {n : Nat} {most : Int} {R : Fn} {body : MS} {ns : List Int} (h63 : ns.length ≤ 63) (hR : R = VD.F_rounds) (h0 : 0 ≤ most) (h1 : most ≤ 63)
    (hb : ∀ (s0 : Option W) (x y : Int) (rest : Sl), rest.length = n → ∃ S', body (s0 :: some (.lst [.fr (.int x), .fr (.int y)]) :: rest) = some (.nx, S') ∧ S'.length = n + 2 ∧ S'.head? = some s0) :
    ∃ ws, mkF (n + 2) 1 (mSeq (mForOwn (mCallF R (mCons (mTmp (mVar 0)) (mCons (mTmp (pureM (.fr (.int most)))) mNil))) 1 body) (mRet (pureM (.fr (.bl true))))) [.fr (.scr ns)] = some (.ok (.fr (.bl true)), ws) := by
  subst hR
  obtain ⟨dice, er, hd⟩ := rounds_ok (ns := ns) (most := most) h63 h0 h1
  obtain ⟨S2, e2, l2, i2⟩ := forO_inv (i := 1) (body := body) (fun S => S.length = n + 2 ∧ S.head? = some (some (.fr (.scr ns)))) (ws := dice) (S := some (.fr (.scr ns)) :: List.replicate (n + 1) none) ⟨by simp, rfl⟩ (fun w hw S ⟨hl, hh⟩ => by
    obtain ⟨x, y, rfl⟩ := (hd w hw).ex
    match S, hl, hh with
    | a :: b :: rest, hl, hh =>
      have ha : a = some (.fr (.scr ns)) := Option.some.inj hh
      subst ha
      obtain ⟨S', e, l, hd'⟩ := hb (some (.fr (.scr ns))) x y rest (by simpa using hl)
      exact ⟨by simp, S', e, l, hd'⟩)
  match S2, l2, i2 with
  | a :: rest, l2, i2 =>
    have ha : a = some (.fr (.scr ns)) := Option.some.inj i2
    subst ha
    refine ⟨[.fr (.scr ns)], mkF_ev (S := some (.fr (.scr ns)) :: rest) rfl (rns_seq (S1 := some (.fr (.scr ns)) :: rest) ?_ (rns_ret ev_pure)) rfl⟩
    refine rns_forO (S1 := some (.fr (.scr ns)) :: List.replicate (n + 1) none) ?_ e2
    exact ev_callF (S1 := some (.fr (.scr ns)) :: List.replicate (n + 1) none) (ev_cons (ev_tmp (ev_varS (d := .scr ns) rfl)) (ev_cons (ev_tmp ev_pure) ev_nil)) rfl er rfl
theorem ix_at {ds : List D} {r : Int} (h0 : 0 ≤ r) (h1 : r < ds.length) : ∃ d, rvIx (.fr (.lst ds)) (.fr (.int r)) = some (.fr d) ∧ d ∈ ds := by
  have hlt : r.toNat < ds.length := by omega
  refine ⟨ds[r.toNat], ?_, List.getElem_mem hlt⟩
  have e : ixL (.fr (.lst ds)) (.fr (.int r)) = some (.fr ds[r.toNat]) := by
    show (L2.atI ds r).map W.fr = _
    unfold L2.atI L2.ixN
    rw [if_pos h0, if_pos h1]
    show (ds[r.toNat]?).map W.fr = _
    rw [List.getElem?_eq_getElem hlt]; rfl
  unfold rvIx orO
  rw [e]
theorem ev_call0 {F : Fn} {w : W} {S : Sl} (h : F [] = some (.ok w, [])) : Rn (mCall0 F) S w S := by
  unfold Rn mCall0; rw [h]
/-- the pool of words, as most laws have it -/
def poolS : List Str := ["a", "ab", "ba", "abc", "cab", "bad", "dab", "abba", "da-b", "d'ab", "cc", "acd"]
theorem any_gen {P R : Fn} (hP : P [] = some (.ok (.fr (.lst (poolS.map .str))), [])) (hR : R = F_roll) (x y : Int) :
    ∃ t x' y', t ∈ poolS ∧ mkF 1 1 (mRet (mOp2 rvIx (mTmp (mCall0 P)) (mTmp (mCallF R (mCons (mSlot 0) (mCons (mTmp (pureM (.fr (.int 12)))) mNil)))))) [.lst [.fr (.int x), .fr (.int y)]] = some (.ok (.fr (.str t)), [.lst [.fr (.int x'), .fr (.int y')]]) := by
  subst hR
  have hr := roll_ok x y 12 (by decide) (by decide)
  have hb := rollV_lt (x := x) (y := y) (n := 12) (by decide)
  obtain ⟨d, e, hd⟩ := ix_at (ds := poolS.map .str) (r := rollV x y 12) hb.1 (by simpa [poolS] using hb.2)
  obtain ⟨t, ht, rfl⟩ := List.mem_map.mp hd
  refine ⟨t, _, _, ht, mkF_ev (S := [some (.lst [.fr (.int (rollX x 12)), .fr (.int (rollY x y))])]) rfl (rns_ret ?_) rfl⟩
  show Rn _ [some (.lst [.fr (.int x), .fr (.int y)])] _ _
  exact ev_op2 (x := .fr (.lst (poolS.map .str))) (y := .fr (.int (rollV x y 12))) (ev_tmp (ev_call0 hP)) (ev_tmp (ev_callF (S1 := [some (.lst [.fr (.int x), .fr (.int y)])]) (ev_cons (ev_slot rfl) (ev_cons (ev_tmp ev_pure) ev_nil)) rfl hr rfl)) rfl rfl e
end VD

set_option Elab.async false
set_option linter.all false
set_option maxRecDepth 100000
set_option maxHeartbeats 4000000
namespace VD
open PySem PySem.Spec PyProof.Rows L2

/-! ### keyword-only parameters: which values stand where -/
/-- behind the positional ones, in the parameters' order: the i-th keyword written, or the i-th default that lacks -/
abbrev KwPat : Type := List (Bool × Nat)
def kwG {α : Type} (pat : KwPat) (us mv ws : List α) : List α := us ++ pat.flatMap fun p => ((if p.1 then ws else mv).drop p.2).take 1
theorem kwG_vals {pat : KwPat} {vs mz zs : List V} {us mv ws : List Value} (h : Vals vs us) (hm : Vals mz mv) (hz : Vals zs ws) : Vals (kwG pat vs mz zs) (kwG pat us mv ws) := by
  unfold kwG
  refine h.append ?_
  induction pat with
  | nil => exact .nil
  | cons p r ih =>
    simp only [List.flatMap_cons]
    refine Vals.append ?_ ih
    have one : ∀ {xs : List V} {ys : List Value}, Vals xs ys → Vals (xs.take 1) (ys.take 1) := fun h => by
      cases h with
      | nil => exact .nil
      | cons a b => exact .cons a .nil
    cases p.1 with
    | true => exact one (hz.drop _)
    | false => exact one (hm.drop _)
theorem kwG_rep {G : Gx} {B : Hp} {pat : KwPat} {ds ms es : List D} {vs mv zs : List V} (h : RepL G B ds vs) (hm : RepL G B ms mv) (hz : RepL G B es zs) : RepL G B (kwG pat ds ms es) (kwG pat vs mv zs) := by
  have app : ∀ {a b : List D} {x y : List V}, RepL G B a x → RepL G B b y → RepL G B (a ++ b) (x ++ y) := fun {a} => by
    induction a with
    | nil => intro b x y h q; cases h; exact q
    | cons d a ih => intro b x y h q; cases h with | cons h1 h2 => exact .cons h1 (ih h2 q)
  have drp : ∀ (n : Nat) {a : List D} {x : List V}, RepL G B a x → RepL G B (a.drop n) (x.drop n) := fun n => by
    induction n with
    | zero => intro a x h; exact h
    | succ n ih => intro a x h; cases h with
      | nil => exact .nil
      | cons _ h2 => exact ih h2
  have one : ∀ {a : List D} {x : List V}, RepL G B a x → RepL G B (a.take 1) (x.take 1) := fun h => by
    cases h with
    | nil => exact .nil
    | cons a _ => exact .cons a .nil
  unfold kwG
  refine app h ?_
  induction pat with
  | nil => exact .nil
  | cons p r ih =>
    simp only [List.flatMap_cons]
    refine app ?_ ih
    cases p.1 with
    | true => exact one (drp _ hz)
    | false => exact one (drp _ hm)
theorem kwG_cons {α : Type} {pat : KwPat} {x : α} {us mv ws : List α} : kwG pat (x :: us) mv ws = x :: kwG pat us mv ws := rfl
/-! ### the defaults as they stand -/
def dvOf : Value → V
  | .none => .non
  | .bool b => .bl b
  | .int i _ => .int i
  | .str s _ => .str s
  | .ref a => .ref a
  | _ => .non
/-- the default of the name in the dict at D is d: a plain value, or the empty tuple -/
def dfB (K : PySem.W.Frag) (D : Addr) (q : Str × VD.D) : Bool := match PySem.W.nsIn K D q.1 with
  | some (some .none) => match q.2 with
    | .non => true
    | _ => false
  | some (some (.str s _)) => match q.2 with
    | .str z => decide (s = z)
    | _ => false
  | some (some (.ref a)) => match q.2 with
    | .tup [] => match K.lookup a with
      | some ⟨.type c, _, .seq its _, _⟩ => decide (c = "tuple") && decide (its.size = 0)
      | _ => false
    | _ => false
  | _ => false
theorem dfB_ok {K : PySem.W.Frag} {D : Addr} {q : Str × VD.D} (h : dfB K D q = true) : ∃ u, PySem.W.nsIn K D q.1 = some (some u) ∧ RelV (dvOf u) u ∧ ∀ (G : Gx) (B : Hp), G.K = K → Rep G B q.2 (dvOf u) := by
  obtain ⟨x, d⟩ := q
  unfold dfB at h
  dsimp only at h
  split at h
  · rename_i e
    refine ⟨_, e, rfl, fun G B _ => ?_⟩
    cases d <;> first | exact .non | cases h
  · rename_i s t e
    refine ⟨_, e, ⟨t, rfl⟩, fun G B _ => ?_⟩
    cases d with
    | str z => cases (of_decide_eq_true h); exact .str
    | _ => cases h
  · rename_i a e
    refine ⟨_, e, rfl, fun G B hK => ?_⟩
    cases d with
    | tup ds =>
      cases ds with
      | nil =>
        refine .tup (vs := []) ?_ .nil
        rw [hK]
        cases q : K.lookup a with
        | none => rw [q] at h; cases h
        | some o =>
          obtain ⟨oc, od, dt, osl⟩ := o
          rw [q] at h
          cases oc with
          | type c =>
            cases dt with
            | seq its n =>
              obtain ⟨h1, h2⟩ := He.ba h
              have hs : its.toList = [] := List.eq_nil_of_length_eq_zero (by rw [Array.length_toList]; exact of_decide_eq_true h2)
              refine .inr ⟨_, its, n, q, congrArg Value.type (of_decide_eq_true h1), rfl, ?_, by rw [hs]; exact .nil⟩
              rw [of_decide_eq_true h2]; exact Nat.zero_le _
            | _ => cases h
          | _ => cases dt <;> cases h
      | cons _ _ => cases h
    | _ => cases h
  · cases h
/-- the keyword-only defaults of the def at at_ -/
def kwTest (K : PySem.W.Frag) (at_ : Str × Option Str) (kds : List (Str × VD.D)) : Bool := match K.lookup (He.fAd K at_) with
  | some ⟨_, _, .func fd, _⟩ => match fd.kwdefaults with
    | .ref D => kds.all (dfB K D)
    | _ => false
  | _ => false
structure KwD (P : Program) (w : World) (K : PySem.W.Frag) (mg : Str → Option Value) (base : Heap) (T : Tx) (f : Addr) (ps : List Str) (k n : Nat) (ks : List Str) (pat : KwPat) (ms : List D) (F : Fn) : Prop where
  ok : ∃ (fd : FuncData) (mv : List Value) (mz : List V), KBn K fd ps n ks (fun us ws => kwG pat us mv ws) (fun vs zs => kwG pat vs mz zs) ∧ (∀ (G : Gx) (B : Hp), G.K = K → RepL G B ms mz) ∧ FnOk P w K mg base (L2N.CX P w) k f fd ps (spV ⟨K, mg, T⟩ F)
section
variable {K : PySem.W.Frag} {x qual : Str} {params : Arguments} {body : List Stmt} {scope : Scope} {at_ : Str × Option Str} {fd : FuncData} {ps : List Str}
theorem kw_binds (F : FunD K x qual params body scope [] [] (He.fAd K at_) fd) (n : Nat) (ks : List Str) (ms : List (Str × VD.D)) (pat : KwPat) (t : kwTest K at_ ms = true)
    (h : ∀ (D : Addr) (doc pm : Value) (an : Option Addr) (cdv ct : Value) (us mv ws : List Value), us.length = n → mv.length = ms.length → ws.length = ks.length →
      KwChain D ((ms.map (·.1)).zip mv) (bindArgs (PySem.W.fnOf x qual params body scope .none (.ref D) doc pm an cdv ct) ⟨us, ks.zip ws⟩) (ps.zip (kwG pat us mv ws))) :
    ∃ (mv : List Value) (mz : List V), KBn K fd ps n ks (fun us ws => kwG pat us mv ws) (fun vs zs => kwG pat vs mz zs) ∧ ∀ (G : Gx) (B : Hp), G.K = K → RepL G B (ms.map (·.2)) mz := by
  obtain ⟨oc, od, dV, kV, doc, pm, an, cdv, ct, osl, rfl, lk, hcd, hD, hK⟩ := F.ex
  rcases hD with ⟨_, rfl⟩ | ⟨e, _⟩
  · unfold kwTest at t
    rw [lk] at t
    cases kV with
    | ref D =>
      have t : ms.all (dfB K D) = true := t
      have key : ∀ (l : List (Str × VD.D)), l.all (dfB K D) = true → ∃ mv : List Value, mv.length = l.length ∧ Vals (mv.map dvOf) mv ∧ (∀ q ∈ (l.map (·.1)).zip mv, PySem.W.nsIn K D q.1 = some (some q.2)) ∧ ∀ (G : Gx) (B : Hp), G.K = K → RepL G B (l.map (·.2)) (mv.map dvOf) := by
        intro l
        induction l with
        | nil => intro _; exact ⟨[], rfl, .nil, (fun q hq => by cases hq), fun _ _ _ => .nil⟩
        | cons m l ih =>
          intro t
          have t2 := Bool.and_eq_true_iff.mp (show (dfB K D m && l.all (dfB K D)) = true from t)
          obtain ⟨u, e1, e2, e3⟩ := dfB_ok t2.1
          obtain ⟨us, l1, r, a, b⟩ := ih t2.2
          refine ⟨u :: us, congrArg Nat.succ l1, .cons e2 r, fun q hq => ?_, fun G B hG => .cons (e3 G B hG) (b G B hG)⟩
          rcases List.mem_cons.mp (show q ∈ (m.1, u) :: (l.map (·.1)).zip us from hq) with e | hq
          · rw [e]; exact e1
          · exact a q hq
      obtain ⟨mv, l1, r, a, b⟩ := key ms t
      exact ⟨mv, mv.map dvOf, ⟨fun s us ws X h1 h2 => BindsTo.of_looks fun M => KwChain.looks X a (h D doc pm an cdv ct us mv ws h1 l1 h2), fun r1 r2 => kwG_vals r1 r r2⟩, b⟩
    | _ => cases t
  · exact absurd rfl e
end

/-! ### keywords written -/
section
variable {T : Tx} {X : Cx} {Xw : WX} {pos : Pos}
def PKO (T : Tx) (X : Cx) (Xw : WX) (kws : List Keyword) (f : M (List Opd)) : Prop := PK X kws fun σ H Q => rdG kA (gx X T) σ H Xw Q f
theorem pkImp {kws : List Keyword} {t t' : TA} (h : PK X kws t) (i : ∀ σ H Q, t' σ H Q → t σ H Q) : PK X kws t' := ⟨fun pos pins s σ H Q I q => h.run pos pins s σ H Q I (i σ H Q q)⟩
theorem pko_nil : PKO T X Xw [] mNil :=
  pkImp pk_nil fun σ H Q ⟨S, B, F, o, S', st, e, w⟩ => by
    cases e
    exact w [] H B F .nil st .refl
theorem pko_cons {nm : Option Str} {e : Expr} {kpos : Pos} {kws : List Keyword} {f : M Opd} {g : M (List Opd)} (h : PO T X Xw e f) (r : PKO T X Xw kws g) : PKO T X Xw (⟨nm, e, kpos⟩ :: kws) (mCons f g) :=
  pkImp (pk_cons h r) fun σ H Q h => by
    obtain ⟨B, F, R⟩ := h.start
    refine (R.step (k1 := kO)).mono fun v H1 ⟨a, ka, R1⟩ => (R1.step (k1 := kA)).mono fun vs H2 ⟨b, kb, R2⟩ => R2.done fun S B1 F1 o S' st c e wn => ?_
    cases e
    refine wn (v :: vs) H2 B1 F1 (.cons ka kb) ?_ c
    have e : kA.tm b vs ++ (kO.tm a v ++ []) = kA.tm (a :: b) (v :: vs) := by rw [List.append_nil]; rfl
    rw [← e]
    exact st
end
/-- the values of operands that are all data -/
def datL (S : Sl) (os : List Opd) : Option (List D) := (getL S os).bind frL
theorem Sta.olds {G : Gx} {σ : St} {H B : Hp} {S : Sl} {F : List Addr} : ∀ {ds : List D} {vs : List V} {ts : Tmp}, Sta G σ H S ts B F → RepL G B ds vs → Sta G σ H S (vs.zip (ds.map W.fr) ++ ts) B F
  | [], _, _, s, .nil => s
  | _ :: _, _, _, s, .cons r rs => (s.olds rs).old r
structure MkK (P : Program) (w : World) (K : PySem.W.Frag) (mg : Str → Option Value) (base : Heap) (T : Tx) (c : Str) (ps : List Str) (k n : Nat) (ks : List Str) (pat : KwPat) (ms : List D) (F : Fn) : Prop where
  mgc : mg c = some (.ref (He.ga K c))
  mkk : Mk K (He.ga K c) (He.ma K (He.ga K c) "__init__")
  ok : KwD P w K mg base T (He.ma K (He.ga K c) "__init__") ps k (n + 1) ks pat ms F
/-- C(e, .., k = v, ..): all that is handed in is data -/
def mMakeK (c : Str) (F : Fn) (pat : KwPat) (ms : List D) (n m : Nat) (f fk : M (List Opd)) : M W := bindM f fun os => bindM fk fun oks => fun S => match datL S os, datL S oks with
  | some ds, some es => if ds.length = n ∧ es.length = m then match F (.obj c [] :: (kwG pat ds ms es).map .fr) with
    | some (.ok (.fr .non), w :: _) => some (.ok w, S)
    | some (.ex x, _ :: _) => some (.ex x, S)
    | _ => none
    else none
  | _, _ => none
section
variable {T : Tx} {X : Cx} {E : XK} {pos : Pos}
theorem pv_makeK {k k' n : Nat} {ps ks : List Str} {pat : KwPat} {ms : List D} {F : Fn} {c : Str} {p : Pos} {e : Expr} {es : List Expr} {kws : List Keyword} {f fk : M (List Opd)} (mv : MkK X.prog X.w X.K X.mg X.base T c ps k n ks pat ms F) (tk : L2N.Takes X (fun cls d _ H => E cls d H)) (hr : Room k' X.A)
    (ha : PAO T X (fun cls d _ H => E cls d H) (e :: es) f) (hkw : PKO T X (fun cls d _ H => E cls d H) kws fk) (hg : Gl X c := by rfl) (hk : k + 1 ≤ k' := by decide)
    (hall : (backToKw pos (keywordEach kws X.env)).all (·.1.isSome) = true := by rfl) (hks : (backToKw pos (keywordEach kws X.env)).filterMap (·.1) = ks := by rfl) (hdb : (c == ("__debug__" : Str)) = false := by decide)
    (he : starEach (e :: es) X.env = (false, eval e X.env) :: starEach es X.env := by rfl) (hpl : ((backTo pos (starEach (e :: es) X.env)).any (·.1) || (backToKw pos (keywordEach kws X.env)).any (·.1.isNone)) = false := by rfl) :
    PV T X (fun cls d _ H => E cls d H) (.Call (.Name c p) (e :: es) kws pos) (mMakeK c F pat ms n ks.length f fk) := by
  obtain ⟨fd, gv, mz, hb, hmz, Fo⟩ := mv.ok.ok
  refine peImp (pe_makeK mv.mkk Fo (hr.mono hk) hg mv.mgc hb (L2N.passes_call tk fun _ _ _ _ h => h) ha hkw hall hks hdb he hpl) fun σ H Q h => ?_
  obtain ⟨B, F0, R⟩ := h.start
  refine (R.step (k1 := kA)).mono fun vs H1 ⟨os, ka, R1⟩ => (R1.step (k1 := kA)).mono fun zs H2 ⟨oks, kb, S, B1, F1, o, S', st, c', e, wn⟩ => ?_
  dsimp only at e
  split at e
  · rename_i ds es' e1 e2
    obtain ⟨ws, g1, g2⟩ := Option.bind_eq_some_iff.mp e1
    obtain ⟨wz, g3, g4⟩ := Option.bind_eq_some_iff.mp e2
    have r1 : RepL (gx X T) B1 ds vs := frL_vw (st.opds (fun z hz => List.mem_append_right _ (List.mem_append_left _ hz)) ka g1) g2
    have r2 : RepL (gx X T) B1 es' zs := frL_vw (st.opds (fun z hz => List.mem_append_left _ hz) kb g3) g4
    split at e
    · rename_i hlen
      refine ⟨r1.length.trans hlen.1, r2.length.trans hlen.2, fun x dx hx hdx hne => ?_⟩
      obtain ⟨F2, st2, c2⟩ := Sta.drop (ts := []) (ts' := kA.tm oks zs ++ (kA.tm os vs ++ [])) (by simpa using st)
      have rg : RepL (gx X T) B1 (kwG pat ds ms es') (kwG pat vs mz zs) := kwG_rep r1 (hmz _ _ rfl) r2
      have st3 : Sta (gx X T) σ H2 S ((kwG pat vs mz zs).zip ((kwG pat ds ms es').map W.fr)) B1 F2 := by simpa using st2.olds rg
      have hne' : x ≠ dx := fun z => hne z.symm
      have gw : Grow H2 (upd (upd H2 dx (.own x)) x (.ins (He.ga X.K c) dx [])) := fun a u q => by
        rw [upd_ne (ne_of_none q hx), upd_ne (ne_of_none q hdx)]; exact q
      have sb : Sub B1 (upd (upd H2 dx (.own x)) x (.ins (He.ga X.K c) dx [])) := st3.sub.grow gw
      obtain ⟨st4, c4⟩ := st3.more (v := .ref x) (w := .obj c []) (Fw := [x]) gw (Le.refl _) sb (fun _ _ h => .inl h) (Own.obj mv.mgc upd_same .nil) (fun a m => by rw [List.mem_singleton.mp m]; exact not_live hx) (fun a m => by rw [List.mem_singleton.mp m]; exact fresh_b st3.sub hx) (by simp)
      have st5 : Sta (gx X T) σ (upd (upd H2 dx (.own x)) x (.ins (He.ga X.K c) dx [])) S ([] ++ (V.ref x :: kwG pat vs mz zs).zip (W.obj c [] :: (kwG pat ds ms es').map W.fr)) B1 ([x] ++ F2) := by simpa using st4
      obtain ⟨Fa, Fb, s1, s2, pp⟩ := st5.split
      have hl : ((kwG pat ds ms es').map W.fr).length = (kwG pat vs mz zs).length := by rw [List.length_map]; exact rg.length.symm
      show spV _ F (kwG pat (V.ref x :: vs) mz zs) _ _ _
      rw [kwG_cons]
      split at e
      · rename_i w ws' ef
        cases e
        refine ⟨W.obj c [] :: (kwG pat ds ms es').map W.fr, B1, Fb, .ok (.fr .non), w :: ws', by simpa using hl, s2, ef, fun v H' B' F' st' c3 => ?_⟩
        have hv : v = .non := (st'.held (List.mem_cons_self ..)).non
        refine ⟨hv, ?_⟩
        obtain ⟨j1, j2⟩ := st'.join2 c3 s1 pp st5.nd
        have j1 : Sta (gx X T) σ H' S ((v, .fr .non) :: ((V.ref x, w) :: (kwG pat vs mz zs).zip ws')) B' (Fa ++ F') := by simpa [gx] using j1
        obtain ⟨F3, j3, c5⟩ := Sta.drop2 j1
        obtain ⟨F4, j4, c6⟩ := Sta.drop (ts := [(V.ref x, w)]) (ts' := (kwG pat vs mz zs).zip ws') (by simpa using j3)
        exact wn _ H' B' F4 trivial j4 (c'.trans (c2.trans (c4.trans (j2.trans (c5.trans c6)))))
      · rename_i cx w ws' ef
        cases e
        refine ⟨W.obj c [] :: (kwG pat ds ms es').map W.fr, B1, Fb, .ex cx, w :: ws', by simpa using hl, s2, ef, fun cls d H' B' F' st' c3 xr => ?_⟩
        obtain ⟨j1, j2⟩ := st'.join2 c3 s1 pp st5.nd
        have j1 : Sta (gx X T) σ H' S ((V.ref x, w) :: (kwG pat vs mz zs).zip ws') B' (Fa ++ F') := by simpa [gx] using j1
        obtain ⟨F4, j4, c6⟩ := Sta.drop (ts := []) (ts' := (V.ref x, w) :: (kwG pat vs mz zs).zip ws') (by simpa using j1)
        exact wn cls d H' B' F4 j4 (c'.trans (c2.trans (c4.trans (j2.trans c6)))) xr
      · cases e
    · cases e
  · cases e
end

/-! ### f(e, .., k = v, ..) -/
structure FnK (P : Program) (w : World) (K : PySem.W.Frag) (mg : Str → Option Value) (base : Heap) (T : Tx) (x : Str) (ps : List Str) (k n : Nat) (ks : List Str) (pat : KwPat) (ms : List D) (F : Fn) : Prop where
  mgx : mg x = some (.ref (He.ga K x))
  kp : PySem.W.keepIn K (.ref (He.ga K x)) = true
  ok : KwD P w K mg base T (He.ga K x) ps k n ks pat ms F
def mCallKw (F : Fn) (pat : KwPat) (ms : List D) (n m : Nat) (f fk : M (List Opd)) : M W := bindM f fun os => bindM fk fun oks => fun S => match datL S os, datL S oks with
  | some ds, some es => if ds.length = n ∧ es.length = m then match F ((kwG pat ds ms es).map .fr) with
    | some (.ok w, _) => some (.ok w, S)
    | some (.ex x, _) => some (.ex x, S)
    | _ => none
    else none
  | _, _ => none
section
variable {T : Tx} {X : Cx} {E : XK} {pos : Pos}
theorem pv_callKw {k k' n : Nat} {ps ks : List Str} {pat : KwPat} {ms : List D} {F : Fn} {c : Str} {p : Pos} {e : Expr} {es : List Expr} {kws : List Keyword} {f fk : M (List Opd)} (mv : FnK X.prog X.w X.K X.mg X.base T c ps k n ks pat ms F) (tk : L2N.Takes X (fun cls d _ H => E cls d H)) (hr : Room k' X.A)
    (ha : PAO T X (fun cls d _ H => E cls d H) (e :: es) f) (hkw : PKO T X (fun cls d _ H => E cls d H) kws fk) (hg : Gl X c := by rfl) (hk : k ≤ k' := by decide)
    (hall : (backToKw pos (keywordEach kws X.env)).all (·.1.isSome) = true := by rfl) (hks : (backToKw pos (keywordEach kws X.env)).filterMap (·.1) = ks := by rfl) (hdb : (c == ("__debug__" : Str)) = false := by decide)
    (he : starEach (e :: es) X.env = (false, eval e X.env) :: starEach es X.env := by rfl) (hpl : ((backTo pos (starEach (e :: es) X.env)).any (·.1) || (backToKw pos (keywordEach kws X.env)).any (·.1.isNone)) = false := by rfl) :
    PV T X (fun cls d _ H => E cls d H) (.Call (.Name c p) (e :: es) kws pos) (mCallKw F pat ms n ks.length f fk) := by
  obtain ⟨fd, gv, mz, hb, hmz, Fo⟩ := mv.ok.ok
  refine peImp (pe_callN Fo (hr.mono hk) hg mv.mgx mv.kp hb (L2N.passes_call tk fun _ _ _ _ h => h) ha hkw hall hks hdb he hpl) fun σ H Q h => ?_
  obtain ⟨B, F0, R⟩ := h.start
  refine (R.step (k1 := kA)).mono fun vs H1 ⟨os, ka, R1⟩ => (R1.step (k1 := kA)).mono fun zs H2 ⟨oks, kb, S, B1, F1, o, S', st, c', e, wn⟩ => ?_
  dsimp only at e
  split at e
  · rename_i ds es' e1 e2
    obtain ⟨ws, g1, g2⟩ := Option.bind_eq_some_iff.mp e1
    obtain ⟨wz, g3, g4⟩ := Option.bind_eq_some_iff.mp e2
    have r1 : RepL (gx X T) B1 ds vs := frL_vw (st.opds (fun z hz => List.mem_append_right _ (List.mem_append_left _ hz)) ka g1) g2
    have r2 : RepL (gx X T) B1 es' zs := frL_vw (st.opds (fun z hz => List.mem_append_left _ hz) kb g3) g4
    split at e
    · rename_i hlen
      refine ⟨r1.length.trans hlen.1, r2.length.trans hlen.2, ?_⟩
      obtain ⟨F2, st2, c2⟩ := Sta.drop (ts := []) (ts' := kA.tm oks zs ++ (kA.tm os vs ++ [])) (by simpa using st)
      have rg : RepL (gx X T) B1 (kwG pat ds ms es') (kwG pat vs mz zs) := kwG_rep r1 (hmz _ _ rfl) r2
      have st3 : Sta (gx X T) σ H2 S ([] ++ (kwG pat vs mz zs).zip ((kwG pat ds ms es').map W.fr)) B1 F2 := by simpa using st2.olds rg
      obtain ⟨Fa, Fb, s1, s2, pp⟩ := st3.split
      have hl : ((kwG pat ds ms es').map W.fr).length = (kwG pat vs mz zs).length := by rw [List.length_map]; exact rg.length.symm
      split at e
      · rename_i w ws' ef
        cases e
        refine ⟨(kwG pat ds ms es').map W.fr, B1, Fb, .ok w, ws', hl, s2, ef, fun v H' B' F' st' c3 => ?_⟩
        obtain ⟨j1, j2⟩ := st'.join2 c3 s1 pp st3.nd
        have j1 : Sta (gx X T) σ H' S ((v, w) :: (kwG pat vs mz zs).zip ws') B' (Fa ++ F') := by simpa [gx] using j1
        obtain ⟨F4, j4, c6⟩ := Sta.drop (ts := [(v, w)]) (ts' := (kwG pat vs mz zs).zip ws') (by simpa using j1)
        exact wn _ H' B' F4 trivial j4 (c'.trans (c2.trans (j2.trans c6)))
      · rename_i cx ws' ef
        cases e
        refine ⟨(kwG pat ds ms es').map W.fr, B1, Fb, .ex cx, ws', hl, s2, ef, fun cls d H' B' F' st' c3 xr => ?_⟩
        obtain ⟨j1, j2⟩ := st'.join2 c3 s1 pp st3.nd
        have j1 : Sta (gx X T) σ H' S ((kwG pat vs mz zs).zip ws') B' (Fa ++ F') := by simpa [gx] using j1
        obtain ⟨F4, j4, c6⟩ := Sta.drop (ts := []) (ts' := (kwG pat vs mz zs).zip ws') (by simpa using j1)
        exact wn cls d H' B' F4 j4 (c'.trans (c2.trans (j2.trans c6))) xr
      · cases e
    · cases e
  · cases e
end
end VD

set_option Elab.async false
set_option linter.all false
set_option maxRecDepth 100000
set_option maxHeartbeats 4000000
namespace PySem.W
open PySem PyProof.Rows
section
variable {prog : Program} {w : World} {A : Around} {E : Value → Shared → Prop} {s : Shared} {K : Frag} {x C L f : Addr} {h₀ : Heap} {m : Str → Option Value} {ox : Obj} {od : Option Obj} {b tb : Value}
theorem neO_slot : Slot "object" "__ne__" "object.__ne__" :=
  .of (owner := "object") (n := "__ne__") (by rw [typeLookup_type, builtinLookup_eq_fast]; kernel_rfl) (by decide +kernel) (by decide +kernel) (by decide +kernel) (.inl (by decide +kernel)) (by rw [isSubtype_type]; kernel_rfl)
theorem neO_body (X : K.In s.heap) (I : InstAt s.heap x ox C od) (hs : findIn K (.ref C) "__eq__" = some (some (.ref f))) (hf : isFn K (.ref f) = true) (hu : A.units < cLine) {Q : Fin → Shared → Prop}
    (h : wpAny (model prog w) A (call (.ref f) [.ref x, b]) (fun v s' => ∃ t, v = .bool t ∧ Q (.done (.ret (.bool (!t)))) s') E s) : wpAny (model prog w) A (Builtin.«object.__ne__» ⟨[.ref x, b], []⟩) Q E s := by
  unfold Builtin.«object.__ne__»
  repeat (first
    | with_reducible refine wpAny_cRoomFor hu ?_
    | (refine wpAny_bind (m := callSpecialIfBound? (.ref x) (Str.ofString "__eq__") [b])
        (ifBound_K X I hs hf (wpAny_mono h (fun r s' hr => by
          obtain ⟨t, rfl, hq⟩ := hr
          repeat (first | exact hq | exact wpAny_pure hq | exact wpAny_truthy_bool hq | (refine wpAny_bind (m := truthy (.bool _)) (wpAny_truthy_bool ?_)) | wp_step)) fun _ _ e => e)))
    | wp_step)
theorem neBound_K {Q : Option Value → Shared → Prop} (X : K.In s.heap) (I : InstAt s.heap x ox C od) (hn : findIn K (.ref C) "__ne__" = some (some (.builtin "object.__ne__"))) (ho : mroIn K C (.type "object") = some true)
    (hs : findIn K (.ref C) "__eq__" = some (some (.ref f))) (hf : isFn K (.ref f) = true) (hu : A.units + 1 < cLine)
    (h : wpAny (model prog w) A.in1 (call (.ref f) [.ref x, b]) (fun v s' => ∃ t, v = .bool t ∧ Q (some (.bool (!t))) s') E s) : wpAny (model prog w) A (callSpecialIfBound? (.ref x) "__ne__" [b]) Q E s := by
  simp only [callSpecialIfBound?, bindSpecialIfBound?]
  refine wpAny_holding (wpAny_bind (wpAny_bind (wpAny_bind (I.type.here ((looks_findIn X hn).here ?_)))))
  refine wpAny_bind (wpAny_askSetting (wpAny_ite ?_))
  have sub : Looks (model prog w) s.heap (isInstance (.ref x) (.type "object")) true := I.type.andThen (looks_mroIn X ho)
  have fin : wpAny (model prog w) A (call (.builtin "object.__ne__") ([.ref x] ++ [b]) >>= fun v => pure (some v)) Q E s := by
    refine wpAny_bind (wpAny_call (codeAny_call_builtin neO_slot.plain F.cmpEntry_ne (@check_slot (model prog w) _ _ s "object.__ne__" "object" "__ne__" (.ref x) [b] [] _ F.cmpKind_ne F.cmpSplit_ne sub (F.cmpArgs_ne _ _) ?_)))
    exact neO_body X I hs hf hu (wpAny_mono h (fun v s' ⟨t, e, q⟩ => ⟨t, e, wpAny_pure q⟩) fun _ _ e => e)
  split
  · exact wpAny_bind ((Looks.of_pure (neO_slot.bind (.ref x))).here (wpAny_pure (by exact fin)))
  · exact wpAny_tryCatch (wpAny_bind ((Looks.of_pure (neO_slot.bind (.ref x))).here (wpAny_pure (by exact fin))))
theorem cmpNe_K {Q : Value → Shared → Prop} (hu : A.units + 1 < cLine) (F : Fr h₀ L s.heap m) (X₀ : K.In h₀) (I : InstAt s.heap x ox C od) (hb : Looks (model prog w) s.heap (typeOf b) tb) (hn : notFirst K C tb = true)
    (hne : findIn K (.ref C) "__ne__" = some (some (.builtin "object.__ne__"))) (ho : mroIn K C (.type "object") = some true)
    (hs : findIn K (.ref C) "__eq__" = some (some (.ref f))) (hf : isFn K (.ref f) = true)
    (h : wpAny (model prog w) A.in1 (call (.ref f) [.ref x, b]) (fun v s' => ∃ t, v = .bool t ∧ Q (.bool (!t)) s') E s) : wpAny (model prog w) A (richCompare .NotEq (.ref x) b) Q E s := by
  have X := X₀.keeps F.keep
  have one : wpAny (model prog w) A (tryCompare (.ref x) (cmpInfo .NotEq).2.1 b) (fun r s' => ∃ v, r = some v ∧ Q v s') E s := by
    unfold tryCompare
    refine wpAny_bind (neBound_K X I hne ho hs hf hu (wpAny_mono h (fun v s' hv => ?_) fun _ _ e => e))
    obtain ⟨t, e, q⟩ := hv
    exact ⟨t, e, wpAny_pure ⟨_, rfl, q⟩⟩
  unfold richCompare
  simp only [oneThing_ref]
  refine wpAny_holding (wpAny_bind (wpAny_cRoomFor (Nat.lt_of_succ_lt hu) ?_))
  refine wpAny_bind (I.type.here (wpAny_bind (hb.here ?_)))
  split
  · rename_i q
    have e : subIn K tb (.ref C) = some false := by
      rcases Bool.or_eq_true_iff.mp hn with e | e
      · rw [beq_iff_eq.mp e] at q; simp at q
      · exact beq_iff_eq.mp e
    refine wpAny_bind ((looks_subIn X e).here ?_)
    simp only [Bool.false_eq_true, if_false]
    refine wpAny_bind (wpAny_mono one (fun r s' z => ?_) fun _ _ e => e)
    obtain ⟨v, rfl, hq⟩ := z
    exact wpAny_pure hq
  · refine wpAny_bind (wpAny_pure ?_)
    simp only [Bool.false_eq_true, if_false]
    refine wpAny_bind (wpAny_mono one (fun r s' z => ?_) fun _ _ e => e)
    obtain ⟨v, rfl, hq⟩ := z
    exact wpAny_pure hq
end
end PySem.W
namespace L2
open PySem PySem.Spec PyProof.Rows
/-- x == y, x != y by an own __eq__ that says a bool -/
def rEqO (C : Addr) (n : Bool) (sp : Sp) (E : XK) : R2 := fun x y H Q => ∃ a b dx dy fs gs, x = .ref a ∧ y = .ref b ∧ H a = some (.ins C dx fs) ∧ H b = some (.ins C dy gs) ∧ sp [x, y] H (fun v H' => ∃ t, v = .bl t ∧ Q (.bl (t != n)) H') E
section
variable {X : Cx} {CX : CXT} {k : Nat} {C f : Addr} {fd : FuncData} {ps : List Str} {sp : Sp} {E : XK}
theorem own_eq_call (F : FnOk X.prog X.w X.K X.mg X.base CX k f fd ps sp) (hb : Binds X.K fd ps []) (hx : Passes CX X E) {A : Around} {pins : List (Addr × Obj)} {s : Shared} {σ : St} {H : Hp} {a b : Addr} {Qb : Bool → Hp → Prop}
    (sb : Sub X k A) (I : Inv X pins σ H s) (h : sp [.ref a, .ref b] H (fun v H' => ∃ t, v = .bl t ∧ Qb t H') E) :
    wpAny (model X.prog X.w) A (call (.ref f) [.ref a, .ref b]) (fun v s' => ∃ t H', v = .bool t ∧ Inv X pins σ H' s' ∧ Qb t H') X.xe s := by
  have e0 : Env0 X.prog X.w X.K X.mg X.base A X.stack s H := by
    have e := I.env0
    exact ⟨by rw [sb.fr]; exact e.frames, e.mod, e.bs, e.bsz, e.funs, e.frf, e.hok, e.bare⟩
  have hl := F.len _ _ _ _ h
  have r2 : Vals [V.ref a, V.ref b] [Value.ref a, Value.ref b] := .cons rfl (.cons rfl .nil)
  refine wpAny_call (codeAny_mono (F.run A X.stack s H ⟨[.ref a, .ref b], []⟩ [.ref a, .ref b] [.ref a, .ref b] _ E sb.room e0 (by
    have := hb s [.ref a, .ref b] I.kIn (by simpa using hl)
    simpa using this) r2 h) fun r s' hq => ?_)
  cases r with
  | error e => exact hx pins σ H s e s' I hq
  | ok fl =>
    cases fl with
    | ret w =>
      obtain ⟨z, H', I', rz, t, ez, q⟩ := I.after hq
      subst ez
      cases rz
      exact ⟨t, H', rfl, I', q⟩
    | next => exact False.elim hq
    | brk => exact False.elim hq
    | cont => exact False.elim hq
theorem op_eqO (F : FnOk X.prog X.w X.K X.mg X.base CX k f fd ps sp) (hs : PySem.W.findIn X.K (.ref C) "__eq__" = some (some (.ref f))) (hf : PySem.W.isFn X.K (.ref f) = true) (hb : Binds X.K fd ps []) (hx : Passes CX X E) (hr : Room k X.A) : OpR X (compareOp .Eq) (rEqO C false sp E) := by
  intro pins s σ H x y v u Q I rx ry hq
  obtain ⟨a, b, dx, dy, fs, gs, rfl, rfl, ha, hb', hsp⟩ := hq
  cases rx
  cases ry
  obtain ⟨mA, J, _⟩ := ins_get I.hok ha
  obtain ⟨mB, J', _⟩ := ins_get I.hok hb'
  obtain ⟨od, J, _⟩ := J.look
  obtain ⟨od', J', _⟩ := J'.look
  obtain ⟨m, hF⟩ := I.fr
  show wpAny (model X.prog X.w) X.A (richCompare .Eq (.ref a) (.ref b)) (EP X pins σ Q) X.xe s
  refine PySem.W.cmp_K (op := .Eq) (tb := .ref C) hr.units0 hF I.ok.mod.kin J J'.type (by simp [PySem.W.notFirst]) hs hf ?_
  refine wpAny_mono (own_eq_call F hb hx ⟨hr, rfl⟩ I hsp) (fun v s' q => ?_) fun _ _ x => x
  obtain ⟨t, H', rfl, I', q⟩ := q
  exact ⟨.bl (t != false), H', I', by cases t <;> rfl, q⟩
theorem op_neO (F : FnOk X.prog X.w X.K X.mg X.base CX k f fd ps sp) (hs : PySem.W.findIn X.K (.ref C) "__eq__" = some (some (.ref f))) (hf : PySem.W.isFn X.K (.ref f) = true) (hb : Binds X.K fd ps []) (hx : Passes CX X E) (hr : Room (k + 1) X.A)
    (hne : PySem.W.findIn X.K (.ref C) "__ne__" = some (some (.builtin "object.__ne__"))) (ho : PySem.W.mroIn X.K C (.type "object") = some true) : OpR X (compareOp .NotEq) (rEqO C true sp E) := by
  intro pins s σ H x y v u Q I rx ry hq
  obtain ⟨a, b, dx, dy, fs, gs, rfl, rfl, ha, hb', hsp⟩ := hq
  cases rx
  cases ry
  obtain ⟨mA, J, _⟩ := ins_get I.hok ha
  obtain ⟨mB, J', _⟩ := ins_get I.hok hb'
  obtain ⟨od, J, _⟩ := J.look
  obtain ⟨od', J', _⟩ := J'.look
  obtain ⟨m, hF⟩ := I.fr
  have sb : Sub X (k + 1) X.A := ⟨hr, rfl⟩
  show wpAny (model X.prog X.w) X.A (richCompare .NotEq (.ref a) (.ref b)) (EP X pins σ Q) X.xe s
  refine PySem.W.cmpNe_K (tb := .ref C) (by have := hr.un; omega) hF I.ok.mod.kin J J'.type (by simp [PySem.W.notFirst]) hne ho hs hf ?_
  refine wpAny_mono (own_eq_call F hb hx sb.in1 I hsp) (fun v s' q => ?_) fun _ _ x => x
  obtain ⟨t, H', rfl, I', q⟩ := q
  exact ⟨t, rfl, .bl (t != true), H', I', by cases t <;> rfl, q⟩
end
end L2
namespace VD
open PySem PySem.Spec PyProof.Rows L2
/-- what is known of a class whose text has __eq__ and no __ne__ -/
structure EqC (K : PySem.W.Frag) (C : Addr) : Prop where
  eq : PySem.W.findIn K (.ref C) "__eq__" = some (some (.ref (He.ma K C "__eq__")))
  fn : PySem.W.isFn K (.ref (He.ma K C "__eq__")) = true
  ne : PySem.W.findIn K (.ref C) "__ne__" = some (some (.builtin "object.__ne__"))
  ob : PySem.W.mroIn K C (.type "object") = some true
def eqcB (K : PySem.W.Frag) (C : Addr) : Bool := decide (PySem.W.findIn K (.ref C) "__eq__" = some (some (.ref (He.ma K C "__eq__")))) && (PySem.W.isFn K (.ref (He.ma K C "__eq__")) && (decide (PySem.W.findIn K (.ref C) "__ne__" = some (some (.builtin "object.__ne__"))) && decide (PySem.W.mroIn K C (.type "object") = some true)))
theorem eqcB_ok {K : PySem.W.Frag} {C : Addr} (h : eqcB K C = true) : EqC K C := by
  unfold eqcB at h
  simp only [Bool.and_eq_true, decide_eq_true_eq] at h
  exact ⟨h.1, h.2.1, h.2.2.1, h.2.2.2⟩
/-- the bool that an own __eq__ says, or its opposite -/
def eqF (F : Fn) (n : Bool) : Fn := fun ws => match F ws with
  | some (.ok (.fr (.bl t)), ws') => some (.ok (.fr (.bl (t != n))), ws')
  | some (.ex c, ws') => some (.ex c, ws')
  | _ => none
theorem spV_eq {G : Gx} {F : Fn} {n : Bool} {vs : List V} {H : Hp} {Q : VK} {E : XK} (h : spV G (eqF F n) vs H Q E) : spV G F vs H (fun v H' => ∃ t, v = .bl t ∧ Q (.bl (t != n)) H') E := by
  obtain ⟨ws, B, F0, o, ws', hl, st, e, q⟩ := h
  unfold eqF at e
  split at e
  · rename_i t ws2 e2
    cases e
    refine ⟨ws, B, F0, _, _, hl, st, e2, fun v H' B' F' st' c => ?_⟩
    have hv : v = .bl t := (st'.held (List.mem_cons_self ..)).bl
    subst hv
    obtain ⟨F2, s2, c2⟩ := st'.drop2
    exact ⟨t, rfl, q (.bl (t != n)) H' B' F2 (s2.old .bl) (c.trans c2)⟩
  · rename_i c ws2 e2
    cases e
    exact ⟨ws, B, F0, _, _, hl, st, e2, q⟩
  · cases e
def mEqO (c : Str) (F : Fn) (n : Bool) (f g : M Opd) : M W := bindM f fun a => bindM g fun b => fun S => match a.get S, b.get S with
  | some x, some y => if (x.inst c "__eq__" && y.inst c "__eq__") = true then match takeL [a, b] S with
    | some (ws, S1) => match eqF F n ws with
      | some (.ok w, ws') => (giveL [a, b] ws' S1).map fun S2 => (.ok w, S2)
      | some (.ex c, ws') => (giveL [a, b] ws' S1).map fun S2 => (.ex c, S2)
      | none => none
    | none => none
    else none
  | _, _ => none
section
variable {T : Tx} {X : Cx} {E : XK} {pos : Pos} {k k' : Nat} {ps : List Str} {F : Fn} {c : Str} {a b : Expr} {f g : M Opd}
theorem pv_eqO {n : Bool} {op : CmpOp} (mg : X.mg c = some (.ref (He.ga X.K c))) (ho : OpR X (compareOp op) (rEqO (He.ga X.K c) n (spV (gx X T) F) E)) (ha : PO T X (fun cls d _ H => E cls d H) a f) (hb : PO T X (fun cls d _ H => E cls d H) b g)
    (hm : behindInMarks op b = false := by first | exact nobehind _ (by decide) (by decide) | rfl) : PV T X (fun cls d _ H => E cls d H) (.Compare a [op] [b] pos) (mEqO c F n f g) :=
  peImp (pe_cmpR ho ha hb hm) fun σ H Q h => by
    obtain ⟨B, F0, R⟩ := h.start
    refine (R.step (k1 := kO)).mono fun x H1 ⟨a, ka, R1⟩ => (R1.step (k1 := kO)).mono fun y H2 ⟨b, kb, R2⟩ => ?_
    obtain ⟨S, B1, F1, o, S', st, c', e, wn⟩ := R2
    dsimp only at e
    split at e
    · rename_i wx wy ex ey
      split at e
      · rename_i hi
        obtain ⟨h1, h2⟩ := Bool.and_eq_true_iff.mp hi
        obtain ⟨p, C, dx, fs, rfl, m, hh, hl⟩ := (st.opd (fun z hz => List.mem_append_right _ (List.mem_append_left _ hz)) ka ex).inst st.sub h1
        obtain ⟨p2, C2, dy, gs, rfl, m2, hh2, hl2⟩ := (st.opd (fun z hz => List.mem_append_left _ hz) kb ey).inst st.sub h2
        have m : X.mg c = some (.ref C) := m
        have m2 : X.mg c = some (.ref C2) := m2
        rw [mg] at m m2
        cases m
        cases m2
        refine ⟨p, p2, dx, dy, fs, gs, rfl, rfl, hh, hh2, spV_eq ?_⟩
        have st : Sta (gx X T) σ H2 S (tmpsL [a, b] [V.ref p, V.ref p2]) B1 F1 := by simpa [kO, tmpsL] using st
        exact call_go (Xw := fun cls d _ H => E cls d H) (os := [a, b]) (vs := [.ref p, .ref p2]) (OkL.cons ka (OkL.cons kb .nil)) ⟨S, B1, F1, o, S', st, c', e, wn⟩
      · cases e
    · cases e
theorem pv_eqown (mv : MtV X.prog X.w X.K X.mg X.base T c "__eq__" ps k F) (q : EqC X.K (He.ga X.K c)) (tk : L2N.Takes X (fun cls d _ H => E cls d H)) (hr : Room k' X.A) (ha : PO T X (fun cls d _ H => E cls d H) a f) (hb : PO T X (fun cls d _ H => E cls d H) b g) (hk : k ≤ k' := by decide)
    (hm : behindInMarks .Eq b = false := by first | exact nobehind _ (by decide) (by decide) | rfl) : PV T X (fun cls d _ H => E cls d H) (.Compare a [.Eq] [b] pos) (mEqO c F false f g) := by
  obtain ⟨fd, hbd, Fo⟩ := mv.ok
  exact pv_eqO mv.mgc (op_eqO Fo q.eq q.fn hbd (L2N.passes_call tk fun _ _ _ _ h => h) (hr.mono hk)) ha hb hm
theorem pv_neown (mv : MtV X.prog X.w X.K X.mg X.base T c "__eq__" ps k F) (q : EqC X.K (He.ga X.K c)) (tk : L2N.Takes X (fun cls d _ H => E cls d H)) (hr : Room k' X.A) (ha : PO T X (fun cls d _ H => E cls d H) a f) (hb : PO T X (fun cls d _ H => E cls d H) b g) (hk : k + 1 ≤ k' := by decide)
    (hm : behindInMarks .NotEq b = false := by first | exact nobehind _ (by decide) (by decide) | rfl) : PV T X (fun cls d _ H => E cls d H) (.Compare a [.NotEq] [b] pos) (mEqO c F true f g) := by
  obtain ⟨fd, hbd, Fo⟩ := mv.ok
  exact pv_eqO mv.mgc (op_neO Fo q.eq q.fn hbd (L2N.passes_call tk fun _ _ _ _ h => h) (hr.mono hk) q.ne q.ob) ha hb hm
theorem pb_eqO {n : Bool} {op : CmpOp} (mg : X.mg c = some (.ref (He.ga X.K c))) (ho : OpR X (compareOp op) (rEqO (He.ga X.K c) n (spV (gx X T) F) E)) (ha : PO T X (fun cls d _ H => E cls d H) a f) (hb : PO T X (fun cls d _ H => E cls d H) b g)
    (hm : behindInMarks op b = false := by first | exact nobehind _ (by decide) (by decide) | rfl) : PB T X (fun cls d _ H => E cls d H) (.Compare a [op] [b] pos) (mTest (mEqO c F n f g)) :=
  ptImp (pt_cmpR ho ha hb hm) fun σ H Q h => by
    have h := rd_test h
    obtain ⟨B, F0, R⟩ := h.start
    refine (R.step (k1 := kO)).mono fun x H1 ⟨a, ka, R1⟩ => (R1.step (k1 := kO)).mono fun y H2 ⟨b, kb, R2⟩ => ?_
    obtain ⟨S, B1, F1, o, S', st, c', e, wn⟩ := R2
    dsimp only at e
    split at e
    · rename_i wx wy ex ey
      split at e
      · rename_i hi
        obtain ⟨h1, h2⟩ := Bool.and_eq_true_iff.mp hi
        obtain ⟨p, C, dx, fs, rfl, m, hh, hl⟩ := (st.opd (fun z hz => List.mem_append_right _ (List.mem_append_left _ hz)) ka ex).inst st.sub h1
        obtain ⟨p2, C2, dy, gs, rfl, m2, hh2, hl2⟩ := (st.opd (fun z hz => List.mem_append_left _ hz) kb ey).inst st.sub h2
        have m : X.mg c = some (.ref C) := m
        have m2 : X.mg c = some (.ref C2) := m2
        rw [mg] at m m2
        cases m
        cases m2
        refine ⟨p, p2, dx, dy, fs, gs, rfl, rfl, hh, hh2, spV_eq (Q := fun x H' => ∃ k, x = .bl k ∧ Q k H') ?_⟩
        have st : Sta (gx X T) σ H2 S (tmpsL [a, b] [V.ref p, V.ref p2]) B1 F1 := by simpa [kO, tmpsL] using st
        exact call_go (Xw := fun cls d _ H => E cls d H) (os := [a, b]) (vs := [.ref p, .ref p2]) (OkL.cons ka (OkL.cons kb .nil)) ⟨S, B1, F1, o, S', st, c', e, wn⟩
      · cases e
    · cases e
theorem pb_eqown (mv : MtV X.prog X.w X.K X.mg X.base T c "__eq__" ps k F) (q : EqC X.K (He.ga X.K c)) (tk : L2N.Takes X (fun cls d _ H => E cls d H)) (hr : Room k' X.A) (ha : PO T X (fun cls d _ H => E cls d H) a f) (hb : PO T X (fun cls d _ H => E cls d H) b g) (hk : k ≤ k' := by decide)
    (hm : behindInMarks .Eq b = false := by first | exact nobehind _ (by decide) (by decide) | rfl) : PB T X (fun cls d _ H => E cls d H) (.Compare a [.Eq] [b] pos) (mTest (mEqO c F false f g)) := by
  obtain ⟨fd, hbd, Fo⟩ := mv.ok
  exact pb_eqO mv.mgc (op_eqO Fo q.eq q.fn hbd (L2N.passes_call tk fun _ _ _ _ h => h) (hr.mono hk)) ha hb hm
theorem pb_neown (mv : MtV X.prog X.w X.K X.mg X.base T c "__eq__" ps k F) (q : EqC X.K (He.ga X.K c)) (tk : L2N.Takes X (fun cls d _ H => E cls d H)) (hr : Room k' X.A) (ha : PO T X (fun cls d _ H => E cls d H) a f) (hb : PO T X (fun cls d _ H => E cls d H) b g) (hk : k + 1 ≤ k' := by decide)
    (hm : behindInMarks .NotEq b = false := by first | exact nobehind _ (by decide) (by decide) | rfl) : PB T X (fun cls d _ H => E cls d H) (.Compare a [.NotEq] [b] pos) (mTest (mEqO c F true f g)) := by
  obtain ⟨fd, hbd, Fo⟩ := mv.ok
  exact pb_eqO mv.mgc (op_neO Fo q.eq q.fn hbd (L2N.passes_call tk fun _ _ _ _ h => h) (hr.mono hk) q.ne q.ob) ha hb hm
end
end VD

set_option Elab.async false
set_option linter.all false
set_option maxRecDepth 100000
set_option maxHeartbeats 4000000
namespace VD
open PySem PySem.Spec PyProof.Rows L2 CwR
/-! ### xs[::-1] -/
def rvRev (w : W) : Option W := w.asLr.map fun ds => newL ds.reverse
theorem RepL.rev {G : Gx} {B : Hp} {ds : List D} {vs : List V} (h : RepL G B ds vs) : RepL G B ds.reverse vs.reverse := by
  have app : ∀ {a b : List D} {x y : List V}, RepL G B a x → RepL G B b y → RepL G B (a ++ b) (x ++ y) := fun {a} => by
    induction a with
    | nil => intro b x y h q; cases h; exact q
    | cons d a ih => intro b x y h q; cases h with | cons h1 h2 => exact .cons h1 (ih h2 q)
  induction ds generalizing vs with
  | nil => cases h; exact .nil
  | cons d ds ih =>
    cases h with
    | cons h1 h2 =>
      rw [List.reverse_cons, List.reverse_cons]
      exact app (ih h2) (.cons h1 .nil)
section
variable {T : Tx} {X : Cx} {Xw : WX} {pos : Pos}
theorem pv_revL {e : Expr} {f : M Opd} {k : Nat} {p1 p2 p3 : Pos} (he : PO T X Xw e f) : PV T X Xw (.Subscript e (.Slice none none (some (.UnaryOp .USub (.Constant (.int 1) k p1) p2)) p3) pos) (mOp1 rvRev f) :=
  peImp (pe_revL he) fun σ H Q h => by
    obtain ⟨B, F, R⟩ := h.start
    refine (R.step (k1 := kO)).mono fun x H1 ⟨a, ka, R1⟩ => R1.done fun S B1 F1 o S' st c e wn => ?_
    split at e
    · rename_i w ew
      obtain ⟨u, e1, e2⟩ := Option.map_eq_some_iff.mp e
      cases e2
      obtain ⟨ds, e3, rfl⟩ := Option.map_eq_some_iff.mp e1
      have vw := st.opd (fun z hz => List.mem_append_left _ hz) ka ew
      obtain ⟨a, us, rfl, h1, r⟩ := vw.lstr st.sub e3
      exact ⟨a, us, rfl, h1, (wn.new st c).lst st.sub r.rev⟩
    · cases e
/-! ### isinstance of an own class -/
def rvIsiO (c : Str) (w : W) : Option W := if w.inst c "?" = true then some (.fr (.bl true)) else none
structure IsoC (K : PySem.W.Frag) (C : Addr) : Prop where
  is : PySem.W.kitOne K (.ref C) (.ref C) = some true
  ca : PySem.W.findIn K (.ref C) "__class__" = some (some (.builtin "object.__class__"))
  ga : PySem.W.specialIn K (.builtin "object.__class__") "__get__" = some (some (.builtin "getset_descriptor.__get__"))
  tk : PySem.W.takesIn K (.builtin "object.__class__") = some true
  ob : PySem.W.mroIn K C (.type "object") = some true
def isoB (K : PySem.W.Frag) (C : Addr) : Bool := decide (PySem.W.kitOne K (.ref C) (.ref C) = some true) && (decide (PySem.W.findIn K (.ref C) "__class__" = some (some (.builtin "object.__class__"))) && (decide (PySem.W.specialIn K (.builtin "object.__class__") "__get__" = some (some (.builtin "getset_descriptor.__get__"))) && (decide (PySem.W.takesIn K (.builtin "object.__class__") = some true) && decide (PySem.W.mroIn K C (.type "object") = some true))))
theorem isoB_ok {K : PySem.W.Frag} {C : Addr} (h : isoB K C = true) : IsoC K C := by
  unfold isoB at h
  simp only [Bool.and_eq_true, decide_eq_true_eq] at h
  exact ⟨h.1, h.2.1, h.2.2.1, h.2.2.2.1, h.2.2.2.2⟩
theorem pv_isiO {e : Expr} {f : M Opd} {c : Str} {p p2 : Pos} (hg : Gl X "isinstance") (hm : X.mg "isinstance" = none) (mg : X.mg c = some (.ref (He.ga X.K c))) (cl : Cls X.K (He.ga X.K c)) (hk : IsoC X.K (He.ga X.K c)) (he : PO T X Xw e f) (hgt : Gl X c := by rfl)
    (hd : (c == ("__debug__" : Str)) = false := by decide) (hb : starEach [e, .Name c p2] X.env = (false, eval e X.env) :: starEach [.Name c p2] X.env := by rfl) (hb2 : starEach [.Name c p2] X.env = (false, eval (.Name c p2) X.env) :: starEach [] X.env := by rfl) (hpl : (backTo pos (starEach [.Name c p2] X.env)).any (·.1) = false := by rfl) :
    PV T X Xw (.Call (.Name "isinstance" p) [e, .Name c p2] [] pos) (mOp1 (rvIsiO c) f) :=
  peImp (pe_callB call_isi hg hm boot_isinstance (pa_cons he (pa_cons (pe_glob (v := .ref (He.ga X.K c)) hgt mg rfl hd) pa_nil hb2) hb) (by decide) (by decide) hb hpl) fun σ H Q h => by
    obtain ⟨B, F, R⟩ := h.start
    refine (R.step (k1 := kO)).mono fun x H1 ⟨a, ka, R1⟩ => R1.done fun S B1 F1 o S' st c' e wn => ?_
    split at e
    · rename_i w ew
      obtain ⟨u, e1, e2⟩ := Option.map_eq_some_iff.mp e
      cases e2
      unfold rvIsiO at e1
      split at e1
      · rename_i hi
        cases e1
        obtain ⟨b, C, dx, fs, rfl, m, hh, _⟩ := (st.opd (fun z hz => List.mem_append_left _ hz) ka ew).inst st.sub hi
        have m : X.mg c = some (.ref C) := m
        rw [mg] at m
        cases m
        exact ⟨.ref b, .ref _, _, _, true, rfl, .own _, .base (.ins hh cl hk.ca hk.ga hk.tk hk.ob), hk.is, (wn.new st c').bl st.sub⟩
      · cases e1
    · cases e
end
/-! ### texts with signs replaced, ahead of which a text has been made -/
section
variable {T : Tx} {X : Cx} {Xw : WX} {pos : Pos}
def PVT (T : Tx) (X : Cx) (Xw : WX) (e : Expr) (f : M W) : Prop := PET X e fun σ H Q => rdG kW (gx X T) σ H Xw Q f
def mRepl (y z : Str) (f : M W) : M W := bindM f fun w => fun S => match w with
  | .fr (.str x) => if x.length + (x.length + 1) * z.length ≤ 16777216 then some (.ok (.fr (.str (Txt.replace x y z))), S) else none
  | _ => none
theorem petImp {e : Expr} {t t' : TE} (h : PET X e t) (i : ∀ σ H Q, t' σ H Q → t σ H Q) : PET X e t' := fun pins s σ H Q h0 I q => h pins s σ H Q h0 I (i σ H Q q)
theorem pvt_of {e : Expr} {f : M W} (h : PV T X Xw e f) : PVT T X Xw e f := fun pins s σ H Q _ I q => h.run pins s σ H Q I q
theorem pvt_repl {o : Expr} {f : M W} {y z : Str} {j k : Nat} {c0 c1 apos pos : Pos} (ho : PVT T X Xw o f) (hyz : (y == z) = false := by decide)
    (hst : starEach [.Constant (.str y) j c0, .Constant (.str z) k c1] X.env = [(false, eval (.Constant (.str y) j c0) X.env), (false, eval (.Constant (.str z) k c1) X.env)] := by rfl)
    (hbase : attributeBase o "replace" X.env (eval o X.env) = eval o X.env := by rfl) (hline : (apos.endLine == pos.line) = true := by rfl) :
    PVT T X Xw (.Call (.Attribute o "replace" apos) [.Constant (.str y) j c0, .Constant (.str z) k c1] [] pos) (mRepl y z f) :=
  petImp (pet_replT ho hyz hst hbase hline) fun σ H Q h => by
    obtain ⟨B, F, R⟩ := h.start
    refine (R.step (k1 := kW)).mono fun v H1 ⟨w, kw, R1⟩ => R1.done fun S B1 F1 o S' st c e wn => ?_
    clear kw
    split at e
    · rename_i x
      split at e
      · rename_i hl
        cases e
        have hv : v = .str x := (st.held (List.mem_append_left _ (List.mem_cons_self ..))).str
        exact ⟨x, hv, hl, (wn.new st c).str st.sub⟩
      · cases e
    · cases e
variable {ta tb : TE} {a b : Expr}
theorem pe_tok {x : Str} {j : Nat} {c0 : Pos} {kk : Value → Sem Value} (ha : PE X a ta) (hE : eval a X.env = eval (.Constant (.str x) j c0) X.env >>= kk) (pins : List (Addr × Obj)) (s : Shared) (σ : St) (H : Hp) (Q : VK) (I : Inv X pins σ H s) (h : ta σ H Q) :
    wpAny (model X.prog X.w) X.A (eval a X.env) (fun v s' => 1 ≤ s'.toks ∧ EP X pins σ Q v s') X.xe s := by
  have w := ha.run pins s σ H Q I h
  rw [hE] at w ⊢
  have w2 : wpAny (model X.prog X.w) X.A (kk (.str x s.toks)) (EP X pins σ Q) X.xe { s with toks := s.toks + 1 } := fun Γ p hΓ => w Γ p hΓ
  have w3 := PySem.wpAny_toks w2
  have w4 : wpAny (model X.prog X.w) X.A (kk (.str x s.toks)) (fun v s' => 1 ≤ s'.toks ∧ EP X pins σ Q v s') X.xe { s with toks := s.toks + 1 } := wpAny_mono w3 (fun v s' z => ⟨by have := z.1; show 1 ≤ s'.toks; simp only at this; omega, z.2⟩) fun _ _ z => z.2
  exact fun Γ p hΓ => w4 Γ p hΓ
theorem pt_cmpT {op : CmpOp} {r : R2} {x : Str} {j : Nat} {c0 : Pos} {kk : Value → Sem Value} (ho : OpR X (compareOp op) r) (ha : PE X a ta) (hE : eval a X.env = eval (.Constant (.str x) j c0) X.env >>= kk) (hb : PET X b tb) (hm : behindInMarks op b = false) : PT X (.Compare a [op] [b] pos) (tTest (tOp r ta tb)) := by
  refine ⟨fun pins s σ H Q I h => ?_⟩
  refine wpAny_isTrue_Compare1 (thn (pe_tok ha hE pins s σ H _ I h) fun v s1 ⟨ht, x, H1, I1, r1, q1⟩ => thn (hb pins s1 σ H1 _ ht I1 q1) fun u s2 ⟨y, H2, I2, r2, q2⟩ =>
    thn (ho pins s2 σ H2 x y v u _ I2 r1 r2 q2) fun c s3 ⟨z, H3, I3, r3, k, e, q3⟩ => ?_) hm
  subst e
  cases r3
  exact wpAny_truthy_bool ⟨H3, I3, q3⟩
/-- a compare: the left side begins with a text that the program has written, the right one has signs replaced -/
theorem pb_cmpT {op : CmpOp} {r : R2} {rv : W → W → Option W} {f : M Opd} {m : M W} {x : Str} {j : Nat} {c0 apos pos' : Pos} {m' : Str} {args : List Expr} {pl : Sem Bool} (ho : OpR X (compareOp op) r) (h2 : Op2 (gx X T) r rv) (ha : PO T X Xw (.Call (.Attribute (.Constant (.str x) j c0) m' apos) args [] pos') f) (hb : PVT T X Xw b m)
    (ht : eval (.Call (.Attribute (.Constant (.str x) j c0) m' apos) args [] pos') X.env = (do
      let ov ← eval (.Constant (.str x) j c0) X.env
      standAt apos.atName
      let (f, first) ← holding [ov] (getMethod ov m' pl)
      callWith pos' f first (backTo pos' (starEach args X.env)) (backToKw pos' (keywordEach [] X.env))) := by rfl)
    (hm : behindInMarks op b = false := by first | exact nobehind _ (by decide) (by decide) | rfl) : PB T X Xw (.Compare (.Call (.Attribute (.Constant (.str x) j c0) m' apos) args [] pos') [op] [b] pos) (mTest (mOp2 rv f (mTmp m))) :=
  ptImp (pt_cmpT ho ha ht hb hm) fun σ H Q h => by
    have h := rd_test h
    obtain ⟨B, F, R⟩ := h.start
    refine (R.step (k1 := kO)).mono fun x H1 ⟨a, ka, R1⟩ => ?_
    unfold mTmp at R1
    rw [bindM_assoc] at R1
    refine (R1.step (k1 := kW)).mono fun y H2 ⟨b, _, R2⟩ => R2.done fun S B1 F1 o S' st c e wn => ?_
    have e : (match a.get S, some b with
      | some x, some y => (rv x y).map fun w => (Res.ok w, S)
      | _, _ => none) = some (o, S') := e
    split at e
    · rename_i wx wy ex ey
      obtain ⟨w, e1, e2⟩ := Option.map_eq_some_iff.mp e
      cases e2
      cases ey
      exact h2 st.sub (st.opd (fun z hz => List.mem_append_right _ (List.mem_append_left _ hz)) ka ex) (st.held (List.mem_append_left _ (List.mem_cons_self ..))) e1 (wn.new st c)
    · cases e
end
theorem allAt {l : List Bool} (h : l.all id = true) {i : Nat} {b : Bool} (e : l[i]? = some b) : b = true := List.all_eq_true.mp h b (List.mem_of_getElem? e)
end VD

set_option Elab.async false
set_option linter.all false
set_option maxRecDepth 100000
set_option maxHeartbeats 4000000
/-! ### enumerate(tuple) -/
namespace PySem
open Sem (wp)
open AutoSeq1 (wpAny_loadPart')
theorem meets_enumerate_newT (l : Addr) (items : Array Value) :
    Meets (Builtin.«enumerate.__new__» ⟨[.type "enumerate", .ref l], []⟩) (fun _ R s => s.heap.IsTuple l items ∧
      R (.ok (.ret (.ref (s.heap.push { cls := .type "tuple_iterator", data := .fields #[.ref l, .int 0 0] }).objs.size)))
        { s with heap := (s.heap.push { cls := .type "tuple_iterator", data := .fields #[.ref l, .int 0 0] }).push { cls := .type "enumerate", data := .fields #[.none, .bool false, .ref s.heap.objs.size, rawInt 0, .none, .none] } }) :=
  .of_wp fun prog w A R s h => by
    obtain ⟨hp, g, d, tk, os⟩ := s; obtain ⟨hl, h⟩ := h
    have hsub := sub_enumerate
    have hL : Heap.IsTuple (Shared.heap ⟨hp, g, d, tk, os⟩) l items := hl
    wp_walk
    refine wpAny_stack_any fun st => wpAny_pure ?_
    split
    · rename_i c _ _ _ _ _
      cases (c == Value.type "enumerate")
      · wp_walk using wpAny_pyIter_tuple hL
        exact ⟨_, rfl, h⟩
      · wp_walk using wpAny_pyIter_tuple hL
        exact ⟨_, rfl, h⟩
    · wp_walk using wpAny_pyIter_tuple hL
      exact ⟨_, rfl, h⟩
section
variable {prog : Program} {w : World} {A : Around} {E : Value → Shared → Prop} {s : Shared}
theorem call_enumerate_tuple {l : Addr} {items : Array Value} {Q : Value → Shared → Prop} (hL : s.heap.IsTuple l items)
    (h : ∀ h', IsEnum h' (s.heap.objs.size + 1) s.heap.objs.size 0 .none → h'.IsTupleIter s.heap.objs.size l 0 → h'.objs.size = s.heap.objs.size + 2 →
      (∀ b o, s.heap.get? b = some o → h'.get? b = some o) → Q (.ref (s.heap.objs.size + 1)) { s with heap := h' }) :
    wpAny (model prog w) A (call (.type "enumerate") [.ref l]) Q E s := by
  refine callType_new F.called_enumerate (by decide) (F.typeCall_enumerate_1 _) (F.newCall_enumerate_1 _) (fun obj => F.args_object_init_2 obj _) F.entry_enumerate_new
    (meets_enumerate_newT l items) ⟨hL, ?_⟩
  have hz : (s.heap.push { cls := .type "tuple_iterator", data := .fields #[.ref l, .int 0 0] }).objs.size = s.heap.objs.size + 1 := Heap.size_push ..
  show _ ∧ _
  rw [hz]
  have he : IsEnum ((s.heap.push { cls := .type "tuple_iterator", data := .fields #[.ref l, .int 0 0] }).push
      { cls := .type "enumerate", data := .fields #[.none, .bool false, .ref s.heap.objs.size, rawInt 0, .none, .none] }) (s.heap.objs.size + 1) s.heap.objs.size 0 .none := by
    have := Heap.get?_push_size (s.heap.push { cls := .type "tuple_iterator", data := .fields #[.ref l, .int 0 0] })
      (o := { cls := .type "enumerate", data := .fields #[.none, .bool false, .ref s.heap.objs.size, rawInt 0, .none, .none] }) rfl
    rw [hz] at this; exact this
  refine ⟨⟨_, he, rfl⟩, h _ he ⟨_, Heap.get?_push_of_some _ (Heap.get?_push_size _ rfl), rfl, rfl⟩ (by rw [Heap.size_push, hz]) fun b o x => Heap.get?_push_of_some _ (Heap.get?_push_of_some _ x)⟩
end
end PySem
namespace L2
open PySem PySem.Spec PyProof.Rows
def IteT (K : PySem.W.Frag) (a : Addr) : It :=
  ⟨fun i H => ∃ (xs : List V) (x : V), SqT K H a xs ∧ xs[i]? = some x, fun i H v H' => ∃ T x, v = .ref T ∧ H T = none ∧ H' = upd H T (.tup [.int (i : Nat), x]) ∧ ∀ xs, SqT K H a xs → xs[i]? = some x, fun i H => ∃ xs : List V, SqT K H a xs ∧ xs.length ≤ i⟩
theorem tupIter_ne {h : Heap} {it a : Addr} {i : Nat} {items : Array Value} (x : h.IsTupleIter it a i) (y : h.IsTuple a items) : a ≠ it := fun e => by
  subst e
  obtain ⟨o, ho, hc, _⟩ := x
  obtain ⟨o', ho', hc', _⟩ := y
  rw [ho] at ho'
  cases ho'
  rw [hc] at hc'
  simp at hc'
theorem turn_enumT {P : Program} {w : World} {K : PySem.W.Frag} {elts : List Expr} {kk : Nat} {tpos : Pos} (a e it : Addr) :
    Turn P w K (.Tuple elts kk tpos) (IteT K a) [e, it] e (fun i h => (∃ old, IsEnum h e it ((i : Nat) : Int) old) ∧ h.IsTupleIter it a i ∧ e ≠ it ∧ e ≠ a) where
  mem := by simp
  obj := fun i h st b hb => by
    obtain ⟨⟨old, he⟩, ⟨o, ho, hc, hd⟩, _⟩ := st
    have e' : b = e ∨ b = it := by simpa using hb
    rcases e' with z | z
    · rw [z]; exact ⟨_, he, fun v q => nomatch q⟩
    · rw [z]; exact ⟨o, ho, fun v q => by rw [hd] at q; cases q⟩
  keep := fun i h h' st k => let ⟨⟨old, he⟩, hi, hne, hea⟩ := st; ⟨⟨old, k e (by simp) _ he⟩, hi.at fun o q => k it (by simp) o q, hne, hea⟩
  item := by
    intro X hP hw hK hc i pins s σ H E I hf st hg
    subst hP hw hK
    obtain ⟨⟨old, he⟩, hit, hne, hea⟩ := st
    obtain ⟨xs, x, hq, hx⟩ := hg
    obtain ⟨its, rv, p, hz⟩ := I.tuple hq
    obtain ⟨u, hu, ru⟩ := rv.get hx
    have hel : e < s.heap.objs.size := Heap.lt_size he
    have hil : it < s.heap.objs.size := by obtain ⟨_, q, _⟩ := hit; exact Heap.lt_size q
    have hat : a ≠ it := tupIter_ne hit p
    have hlt : i < its.toArray.size := by
      have := (List.getElem?_eq_some_iff.mp hu).1
      simpa using this
    refine wpAny_pyNext_enum_itemD (Draws.tuple (A := X.A.in1) (I.ok.hd hc) it a hat its.toArray) he ⟨hit, p⟩ hlt hne (by simp [hne, hea]) fun u' h' tk hP ho hst hT hsz hk => ?_
    have eu : u' = u := by
      have e1 : its[i]? = some u' := by simpa using hP
      rw [hu] at e1
      exact (Option.some.inj e1).symm
    subst eu
    refine ⟨_, rfl, wpAny_letOwnedTupleGo_enum (s := { s with heap := h', toks := tk + 1 }) ho fun h'' he' sb => ?_⟩
    have hT2 : h''.get? s.heap.objs.size = some { cls := .type "tuple", data := .seq #[.int i tk, u'] } := (sb.2 _ (Nat.ne_of_gt hel)).trans hT
    have new : ObjOk X.prog X.w (upd H s.heap.objs.size (.tup [.int (i : Nat), x])) h'' s.heap.objs.size (.tup [.int (i : Nat), x]) :=
      ⟨by show 2 ≤ sizeLine; decide, [.int i tk, u'], .cons ⟨_, rfl⟩ (.cons ru .nil), ⟨_, hT2, rfl, _, rfl⟩⟩
    have I1 : Inv X pins σ (upd H s.heap.objs.size (.tup [.int (i : Nat), x])) { s with heap := h'', toks := tk + 1 } :=
      I.turnedNew (ch := [e, it]) (fun b ob hb q => (sb.2 b (fun z => hb (by simp [z]))).trans (hk b ob (fun z => hb (by simp [z])) (fun z => hb (by simp [z])) q)) hf (Nat.le_refl _) new
    refine ⟨.ref s.heap.objs.size, _, I1, rfl, ⟨_, x, rfl, I.hok.fresh (Nat.le_refl _), rfl, fun ys hy => by rw [I.tuple_inj hy hq]; exact hx⟩, ⟨⟨u', ?_⟩, hst.1.at fun o q => (sb.2 it (Ne.symm hne)).trans q, hne, hea⟩, fun b hb => ?_⟩
    · have e1 : ((i + 1 : Nat) : Int) = (i : Int) + 1 := by omega
      rw [e1]; exact he'
    · have hb' : b < s.heap.objs.size := by
        have e' : b = e ∨ b = it := by simpa using hb
        rcases e' with z | z
        · rw [z]; exact hel
        · rw [z]; exact hil
      rw [upd_ne (Nat.ne_of_lt hb')]
      exact (hf b hb).1
  done := by
    intro X hP hw hK hc i pins s σ H E I hf st hg
    subst hP hw hK
    obtain ⟨⟨old, he⟩, hit, hne, hea⟩ := st
    obtain ⟨xs, hq, hx⟩ := hg
    obtain ⟨its, rv, p, hz⟩ := I.tuple hq
    obtain ⟨f0, f1, f2, f3, f4, f5⟩ := hf it (by simp)
    have hl := rv.length
    have hh : X.A.in1.handled = none := I.ok.hd hc
    have hT : s.TypeIs (.ref e) "enumerate" := ⟨_, he, rfl⟩
    unfold pyNext
    refine wpAny_bind (wpAny_attempt (wpAny_callSpecial?_slot (name := Str.ofString "__next__") hT F.slot_enumerate_next
      (wpAny_call_entry F.slot_enumerate_next hT F.entry_enumerate_next ?_ (F.args_enumerate_next_1 _))))
    show wpAny _ _ (field (.ref e) 2 >>= _) _ _ _
    refine wpAny_bind (wpAny_field he rfl (x := .ref it) rfl ?_)
    refine wpAny_bind (wpAny_nextOf_tuple_end hh hit p (by simp; omega) fun h' x he' hx' => ?_)
    obtain ⟨o, ho, hc'⟩ := hx'
    refine wpAny_bind (wpAny_isInstance (T := "StopIteration") (b := true) ⟨o, ho, hc'⟩ isSubtype_stop ?_)
    exact wpAny_pure ⟨rfl, I.turned (t' := s.toks) (fun b o hb q => he' b o hb q) f0 f1 f3 f4 f5⟩
  self := fun A i s Q E st h => let ⟨⟨_, he⟩, _⟩ := st; wpAny_pyIter_enum he h
def iEnumA (K : PySem.W.Frag) (ta : TA) : TI := fun σ H R => ta σ H fun vs H1 => ∃ a xs, vs = [.ref a] ∧ ((SqL K H1 a xs ∧ R (Ite K a) H1) ∨ (SqT K H1 a xs ∧ R (IteT K a) H1))
theorem pi_enumA {X : Cx} {e : Expr} {ta : TA} {p pos tpos : Pos} {elts : List Expr} {kk : Nat} (hg : Gl X "enumerate") (hm : X.mg "enumerate" = none) (ha : PA X [e] ta) (hs : starEach [e] X.env = [(false, eval e X.env)] := by rfl) :
    PI X (.Tuple elts kk tpos) (.Call (.Name "enumerate" p) [e] [] pos) (iEnumA X.K ta) := by
  refine ⟨fun pins s σ H R I h => ?_⟩
  refine Call_ (ld_blt I hg hm boot_enumerate (PyProof.Rows.callWith_type1 (thn (ha.run pos pins s σ H _ I h) fun us s1 ⟨vs, H1, I1, r1, q1⟩ => ?_) hs rfl))
  obtain ⟨a, xs, ex, hq⟩ := q1
  subst ex
  cases r1 with
  | cons r rr =>
    cases rr
    cases r
    have fp : ∀ b ∈ [s1.heap.objs.size + 1, s1.heap.objs.size], s1.heap.objs.size ≤ b := fun b hb => by
      have e' : b = s1.heap.objs.size + 1 ∨ b = s1.heap.objs.size := by simpa using hb
      rcases e' with z | z
      · rw [z]; exact Nat.le_add_right _ _
      · rw [z]; exact Nat.le_refl _
    rcases hq with ⟨hq, q⟩ | ⟨hq, q⟩
    · obtain ⟨its, rv, p', hz⟩ := I1.list hq
      refine call_enumerate_list p'.isList fun h' he hit hsz hk => wpAny_pyIter_enum he ?_
      have I2 : Inv X pins σ H1 { s1 with heap := h' } := I1.kept (t' := s1.toks) hk
      exact ⟨s1.heap.objs.size + 1, [s1.heap.objs.size + 1, s1.heap.objs.size], _, _, H1, rfl, I2, turn_enum a (s1.heap.objs.size + 1) s1.heap.objs.size, ⟨⟨.none, he⟩, hit, Nat.succ_ne_self _⟩, fun b hb => I1.fpOk (fp b hb) (I1.hok.fresh (fp b hb)), q⟩
    · obtain ⟨its, rv, p', hz⟩ := I1.tuple hq
      have hal : a < s1.heap.objs.size := by obtain ⟨_, z, _⟩ := p'; exact Heap.lt_size z
      refine call_enumerate_tuple p' fun h' he hit hsz hk => wpAny_pyIter_enum he ?_
      have I2 : Inv X pins σ H1 { s1 with heap := h' } := I1.kept (t' := s1.toks) hk
      exact ⟨s1.heap.objs.size + 1, [s1.heap.objs.size + 1, s1.heap.objs.size], _, _, H1, rfl, I2, turn_enumT a (s1.heap.objs.size + 1) s1.heap.objs.size, ⟨⟨.none, he⟩, hit, Nat.succ_ne_self _, fun z => absurd (z ▸ hal) (Nat.not_lt.mpr (Nat.le_succ _))⟩, fun b hb => I1.fpOk (fp b hb) (I1.hok.fresh (fp b hb)), q⟩
end L2
namespace VD
open PySem PySem.Spec PyProof.Rows L2
theorem iteT_ok {G : Gx} {B : Hp} {a : Addr} {vs : List V} {ds : List D} (h : SqT G.K B a vs) (r : RepL G B ds vs) : ItOk G (IteT G.K a) B (enumD 0 ds) := fun B1 H1 l s => by
  have q := sqT_sub s (sqT_le l h)
  refine ⟨⟨vs, q, by rw [r.length, enumD_len]; exact Nat.le_refl _⟩, fun i d e => ?_⟩
  obtain ⟨d0, e0, rfl⟩ := enumD_get e
  obtain ⟨v, h1, h2⟩ := r.get e0
  refine ⟨⟨vs, v, q, h1⟩, fun x H2 y => ?_⟩
  obtain ⟨p, z, rfl, hp, rfl, y⟩ := y
  have e2 := y vs q
  rw [h1] at e2
  cases e2
  have hb := fresh_b s hp
  refine ⟨upd B1 p (.tup [.int (i : Nat), v]), .new hp, Le.upd hb, ⟨fun b u eb => ?_, fun b ps eb => ?_⟩, fun b u eb => ?_, ?_⟩
  · by_cases z : b = p
    · subst z; rw [upd_same] at eb ⊢; exact .inl eb
    · rw [upd_ne z] at eb ⊢; exact s b u eb
  · by_cases z : b = p
    · subst z; rw [upd_same] at eb; cases eb
    · rw [upd_ne z] at eb; exact s.nt b ps eb
  · by_cases z : b = p
    · subst z; exact .inr (not_live hp)
    · rw [upd_ne z] at eb; exact .inl eb
  · refine .tup (SqT.of upd_same) ?_
    have : ((0 + i : Nat) : Int) = (i : Nat) := by rw [Nat.zero_add]
    rw [this]
    exact .cons .int (.cons (h2.mono (l.trans (Le.upd hb))) .nil)
def mEnumA (f : M W) : M (List D) := bindM f fun w => fun S => match w.toD with
  | .lst ds => some (.ok (enumD 0 ds), S)
  | .tup ds => some (.ok (enumD 0 ds), S)
  | _ => none
section
variable {T : Tx} {X : Cx} {Xw : WX} {pos : Pos}
theorem piv_enumA {e : Expr} {f : M W} {p pos tpos : Pos} {elts : List Expr} {kk : Nat} (hg : Gl X "enumerate") (hm : X.mg "enumerate" = none) (he : PV T X Xw e f) (hs : starEach [e] X.env = [(false, eval e X.env)] := by rfl) : PIV T X Xw (.Tuple elts kk tpos) (.Call (.Name "enumerate" p) [e] [] pos) (mEnumA f) :=
  piImp (pi_enumA hg hm (pa_cons he pa_nil hs) hs) fun σ H R ⟨S, B, F, o, S', st, e, w⟩ => by
    unfold mEnumA bindM at e
    cases e1 : f S with
    | none => rw [e1] at e; cases e
    | some q =>
      obtain ⟨r, S1⟩ := q
      rw [e1] at e
      cases r with
      | ex c =>
        cases e
        exact ⟨S, B, F, _, _, st, e1, w⟩
      | ok x =>
        dsimp only at e
        refine ⟨S, B, F, _, S1, st, e1, ?_⟩
        intro v H' B' F' _ st' c
        have st' : Sta (gx X T) σ H' S1 [(v, x)] B' F' := st'
        obtain ⟨B2, F2, s2, c2⟩ := Sta.settle st'
        have r : Rep (gx X T) B2 x.toD v := (s2.held (List.mem_cons_self ..)).rep
        obtain ⟨F3, s3, c3⟩ := Sta.drop2 s2
        split at e
        · rename_i ds ex
          cases e
          rw [ex] at r
          cases r with
          | lst h r => exact ⟨_, _, rfl, .inl ⟨sqL_sub s3.sub (SqL.of h), w _ H' B2 F3 s3 (c.trans (c2.trans c3)) (ite_ok (SqL.of h) r)⟩⟩
        · rename_i ds ex
          cases e
          rw [ex] at r
          cases r with
          | tup h r => exact ⟨_, _, rfl, .inr ⟨sqT_sub s3.sub h, w _ H' B2 F3 s3 (c.trans (c2.trans c3)) (iteT_ok h r)⟩⟩
        · cases e
end
end VD

set_option Elab.async false
set_option linter.all false
set_option maxRecDepth 100000
set_option maxHeartbeats 4000000
namespace VD
open PySem PySem.Spec PyProof.Rows
section
variable {prog : Program} {w : World} {A : Around} {E : Value → Shared → Prop} {s : Shared}
theorem call_setKT {l : Addr} {items : Array Value} {ks : List KeyT} {Q : Value → Shared → Prop}
    (hh : A.handled = none) (hl : s.heap.IsTuple l items) (hi : L2.Vals (ks.map L2.kV) items.toList) (hz : ks.length + 1 < scanBound)
    (h : ∀ (h' : Heap) (tk : Nat), h'.SetOf (L2.mixKind prog w) s.heap.objs.size (hasK (distK [] ks)) (distK [] ks).length →
      (∀ b o, b < s.heap.objs.size → s.heap.get? b = some o → h'.get? b = some o) → Q (.ref s.heap.objs.size) { s with heap := h', toks := tk }) :
    wpAny (model prog w) A (call (.type "set") [.ref l]) Q E s := by
  have fin0 : metK ks items.size = distK [] ks := by
    have hs : ks.length = items.size := by
      have := hi.length
      simpa using this
    unfold metK
    rw [← hs, List.take_length]
  obtain ⟨c, tl, hmro⟩ := PySem.F.called_set.mro
  have g1 := PySem.F.called_set.made
  have g2 := PySem.F.called_set.sub
  refine wpAny_call (codeAny_of_tree ?_)
  show wpAny _ _ (callAny (.type "set") _) _ _ _
  refine wpAny_pure ⟨Code.quiet_builtin _ (by decide +kernel), codeAny_builtin PySem.F.entry_type_call ?_⟩
  rw [Around.under_plain (weight_type_call_type "set" [.ref l] []) rfl]
  have g3 := PySem.F.called_set.notType
  have g4 := PySem.F.called_set.canCreate
  have g5 := PySem.F.typeCall_set_1 (.ref l)
  repeat (any_goals (first | assumption | wp_step))
  refine codeAny_mono (code_set_new_1 (.ref l) (E := E) (Q₁ := fun obj s₁ => ∃ led : Bool, obj = .ref s.heap.objs.size ∧ s₁ = { s with heap := s.heap.push { cls := .type "set", dict := none, data := .set #[] 0 (.fresh 0 0 led) } }) fun led => ⟨led, rfl, rfl⟩) fun r s₁ hr => ?_
  cases r with
  | error e => exact hr
  | ok fl =>
    cases fl with
    | ret obj =>
      obtain ⟨led, rfl, rfl⟩ := hr
      have hS : (s.heap.push { cls := .type "set", dict := none, data := .set #[] 0 (.fresh 0 0 led) }).get? s.heap.objs.size = some { cls := .type "set", dict := none, data := .set #[] 0 (.fresh 0 0 led) } := Heap.get?_push_size _ rfl
      have hT : Shared.TypeIs { s with heap := s.heap.push { cls := .type "set", dict := none, data := .set #[] 0 (.fresh 0 0 led) } } (.ref s.heap.objs.size) "set" := ⟨_, hS, rfl⟩
      have g6 := PySem.F.called_set.init.lookup
      have g7 := PySem.F.called_set.init.bind (.ref s.heap.objs.size)
      repeat (any_goals (first | assumption | wp_step))
      refine codeAny_mono (codeAny_call_builtin (R := wants (fun r s₂ => r = .none ∧ ∃ h' tk, s₂ = { s with heap := h', toks := tk } ∧
          h'.SetOf (L2.mixKind prog w) s.heap.objs.size (hasK (distK [] ks)) (distK [] ks).length ∧
          (∀ b o, b < s.heap.objs.size → s.heap.get? b = some o → h'.get? b = some o)) E) PySem.F.called_set.init.plain PySem.F.entry_set_init (check_set_init_1 hT ?_)) fun r₂ s₂ hr₂ => ?_
      · obtain ⟨ol, hol, hcl, nl, hdl⟩ := hl
        obtain ⟨ocls, odict, odata, oslots⟩ := ol
        simp only at hcl hdl
        subst hcl hdl
        have hol' : (s.heap.push { cls := .type "set", dict := none, data := .set #[] 0 (.fresh 0 0 led) }).get? l = some { cls := .type "tuple", dict := odict, data := .seq items nl, slots := oslots } := Heap.get?_push_of_some _ hol
        have g8 := PySem.F.sub_tuple_set
        have g9 := PySem.F.sub_tuple_frozenset
        have g10 : (Value.type "tuple" == Value.type "dict") = false := by decide
        have hl1 : (s.heap.push { cls := .type "set", dict := none, data := .set #[] 0 (.fresh 0 0 led) }).IsTuple l items := ⟨_, hol', rfl, nl, rfl⟩
        unfold Builtin.«set.__init__» noKeywords Builtin.Frozenset.updateFrom
        generalize hPI : pyIter = PI
        wp_walk
        subst hPI
        refine wpAny_pyIter_tuple hl1 ?_
        refine wpAny_bind (wpAny_runValue ?_)
        have lt := Heap.lt_size hol
        have n1 : l ≠ (s.heap.push { cls := .type "set", dict := none, data := .set #[] 0 (.fresh 0 0 led) }).objs.size := by
          rw [Heap.size_push]; exact Nat.ne_of_lt (Nat.lt_succ_of_lt lt)
        have n2 : s.heap.objs.size ∉ [(s.heap.push { cls := .type "set", dict := none, data := .set #[] 0 (.fresh 0 0 led) }).objs.size, l] := by
          rw [Heap.size_push]
          intro z
          rcases List.mem_cons.mp z with z | z
          · exact absurd z (Nat.ne_of_lt (Nat.lt_succ_self _))
          · exact absurd (List.mem_singleton.mp z) (Nat.ne_of_gt lt)
        have hs : ks.length = items.size := by
          have := hi.length
          simpa using this
        refine loopK ((Walks.tuple (show A.in1.in1.in1.handled = none by simp [hh]) _ l n1 items).toS) s.heap.objs.size n2 ks hs (by omega) (fun i v hv => keys_at hi i v (by rw [Array.getElem?_toList]; exact hv)) (items.size - 0) 0 _ (by omega) (Nat.zero_le _)
          ⟨⟨_, Heap.get?_push_size _ rfl, rfl, rfl⟩, (hl1.push _)⟩ ?hS0 ?hR
        case hS0 =>
          have hg : ((s.heap.push { cls := .type "set", dict := none, data := .set #[] 0 (.fresh 0 0 led) }).push { cls := .type "tuple_iterator", data := .fields #[.ref l, .int 0 0] }).get? s.heap.objs.size = some { cls := .type "set", dict := none, data := .set #[] 0 (.fresh 0 0 led) } := Heap.get?_push_of_some _ hS
          exact ⟨_, #[], 0, _, hg, ⟨rfl, rfl, rfl⟩, rfl, (fun e he => by simp at he), (fun k => by simp [metK, distK, hasK]), (by decide), (by rfl), rfl⟩
        case hR =>
          intro s' mv hS'
          rw [fin0] at hS'
          obtain ⟨h', g', d', tk', os'⟩ := s'
          obtain rfl : g' = s.gens := mv.gens
          obtain rfl : d' = s.drawn := mv.drawn
          obtain rfl : os' = s.os := mv.os
          show wpAny _ _ _ _ _ _
          refine wpAny_pure ?_
          show wpAny _ _ (ret Value.none) _ _ _
          refine wpAny_pure ⟨rfl, h', tk', rfl, hS', fun b o hb e => ?_⟩
          refine mv.heap b o (fun z => ?_) (Heap.get?_push_of_some _ (Heap.get?_push_of_some _ e))
          rcases List.mem_cons.mp z with z | z
          · exact absurd z (Nat.ne_of_lt hb)
          · have z2 := List.mem_singleton.mp z
            rw [Heap.size_push] at z2
            exact absurd z2 (Nat.ne_of_lt (Nat.lt_succ_of_lt hb))
      · cases r₂ with
        | error e => exact hr₂
        | ok fl₂ =>
          cases fl₂ with
          | ret r =>
            obtain ⟨rfl, h', tk, rfl, hS', hk'⟩ := hr₂
            repeat (any_goals (first | assumption | wp_step))
            exact h _ _ hS' hk'
          | _ => exact hr₂.elim
    | _ => exact hr.elim
end
end VD
namespace VD
open PySem PySem.Spec PyProof.Rows L2
def rSetOfKA (K : PySem.W.Frag) (P : Program) (w : World) : List V → Hp → VK → Prop := fun xs H Q => ∃ (l : Addr) (ks : List Key), xs = [.ref l] ∧ (SqL K H l (ks.map kV) ∨ SqT K H l (ks.map kV)) ∧ ks.length < 4000 ∧ ∀ p, H p = none → Q (.ref p) (upd H p (SetK P w p (hasK (distK [] ks)) (distK [] ks).length))
theorem cr_setOfKA {X : Cx} (hc : X.calm = true) : CallR X (.type "set") (rSetOfKA X.K X.prog X.w) := by
  intro pins s σ H xs us Q I r h
  obtain ⟨l, ks, rfl, hl, hz, q⟩ := h
  cases r with
  | cons r1 rt =>
    cases rt
    cases r1
    have hz2 : ks.length + 1 < scanBound := by
      have : scanBound = 4096 := rfl
      omega
    rcases hl with hl | hl
    · obtain ⟨its, rv, pl, _⟩ := I.list hl
      refine call_setK (I.ok.hd hc) pl.isList (by simpa using rv) hz2 fun h' tk hS hk => ?_
      have hlt : ∀ b o, s.heap.get? b = some o → h'.get? b = some o := fun b o e => hk b o (Heap.lt_size e) e
      exact ⟨.ref s.heap.objs.size, _, I.laid (t' := tk) hlt (Nat.le_refl _) (setK_new hS), rfl, q _ (I.hok.fresh (Nat.le_refl _))⟩
    · obtain ⟨its, rv, pl, _⟩ := I.tuple hl
      refine call_setKT (I.ok.hd hc) pl (by simpa using rv) hz2 fun h' tk hS hk => ?_
      have hlt : ∀ b o, s.heap.get? b = some o → h'.get? b = some o := fun b o e => hk b o (Heap.lt_size e) e
      exact ⟨.ref s.heap.objs.size, _, I.laid (t' := tk) hlt (Nat.le_refl _) (setK_new hS), rfl, q _ (I.hok.fresh (Nat.le_refl _))⟩
def W.asSeq (w : W) : Option (List D) := match w.asLr with
  | some ds => some ds
  | none => w.asT
def mLenSetOfA (f : M Opd) : M W := bindM f fun o => fun S => match o.get S with
  | some w => match (W.asSeq w).bind keysD with
    | some ks => if ks.length < 4000 then some (.ok (.fr (.int ((distK [] ks).length : Nat))), S) else none
    | none => none
  | none => none
section
variable {T : Tx} {X : Cx} {Xw : WX} {pos : Pos}
theorem pv_lenSetOfA {e : Expr} {f : M Opd} {p p2 p3 p4 : Pos} (hc : X.calm = true) (hg : Gl X "len") (hm : X.mg "len" = none) (hg2 : Gl X "set") (hm2 : X.mg "set" = none) (he : PO T X Xw e f) (hv : bootBuiltins "set" = some (.type "set") := by decide +kernel)
    (h1 : starEach [e] X.env = (false, eval e X.env) :: starEach [] X.env := by rfl) (h2 : (backTo p3 (starEach [] X.env)).any (·.1) = false := by rfl)
    (h3 : starEach [.Call (.Name "set" p2) [e] [] p3] X.env = (false, eval (.Call (.Name "set" p2) [e] [] p3) X.env) :: starEach [] X.env := by rfl) (h4 : (backTo p4 (starEach [] X.env)).any (·.1) = false := by rfl) :
    PV T X Xw (.Call (.Name "len" p) [.Call (.Name "set" p2) [e] [] p3] [] p4) (mLenSetOfA f) :=
  peImp (pe_callB call_lenK hg hm boot_len (pa_cons (pe_callTy (cr_setOfKA hc) hg2 hm2 hv (pa_cons he pa_nil h1) (by decide) (by decide) h1 h2) pa_nil h3) (by decide) (by decide) h3 h4) fun σ H Q h => by
    obtain ⟨B, F, R⟩ := h.start
    refine (R.step (k1 := kO)).mono fun x H1 ⟨a, ka, R1⟩ => R1.done fun S B1 F1 o S' st c e wn => ?_
    split at e
    · rename_i w ew
      split at e
      · rename_i ks ek
        split at e
        · rename_i hz
          cases e
          obtain ⟨ds, e1, e2⟩ := Option.bind_eq_some_iff.mp ek
          have vw := st.opd (fun z hz => List.mem_append_left _ hz) ka ew
          have fin : ∀ p, H1 p = none → rLenK X.prog X.w [V.ref p] (upd H1 p (SetK X.prog X.w p (hasK (distK [] ks)) (distK [] ks).length)) Q := fun p hp => by
            have gr : Grow H1 (upd H1 p (SetK X.prog X.w p (hasK (distK [] ks)) (distK [] ks).length)) := .new hp
            exact ⟨p, _, _, rfl, upd_same, (wn.new (st.grow gr) (c.trans (.grow gr))).int (st.grow gr).sub⟩
          unfold W.asSeq at e1
          split at e1
          · rename_i ds' e3
            cases e1
            obtain ⟨b, vs, rfl, h1, r⟩ := vw.lstr st.sub e3
            exact ⟨b, ks, rfl, .inl (by rw [← keys_rep r e2]; exact h1), hz, fin⟩
          · obtain ⟨b, vs, rfl, h1, r⟩ := vw.tup st.sub e1
            exact ⟨b, ks, rfl, .inr (by rw [← keys_rep r e2]; exact h1), hz, fin⟩
        · cases e
      · cases e
    · cases e
end
end VD

set_option Elab.async false
set_option linter.all false
set_option maxRecDepth 100000
set_option maxHeartbeats 0
namespace Lw
open PySem PySem.Spec PyProof.Rows L2 VD
def top (i : Nat) : Stmt := PySem.Challenge.pw_wordkeepers_k01_whole_letters_read.main.body.getD i (.Pass ⟨0, 0, 0, 0⟩)
def d0 : He.DefD := ⟨("is_small", none), "is_small", "is_small", defArgs (top 23), defBody (top 23), defScope (top 23), [], []⟩
def d1 : He.DefD := ⟨("is_word", none), "is_word", "is_word", defArgs (top 24), defBody (top 24), defScope (top 24), [], []⟩
def d2 : He.DefD := ⟨("Alphabet", some "__init__"), "__init__", "Alphabet.__init__", defArgs (inClass (top 25) 0), defBody (inClass (top 25) 0), defScope (inClass (top 25) 0), [], []⟩
def d3 : He.DefD := ⟨("Alphabet", some "__eq__"), "__eq__", "Alphabet.__eq__", defArgs (inClass (top 25) 1), defBody (inClass (top 25) 1), defScope (inClass (top 25) 1), [], []⟩
def d4 : He.DefD := ⟨("Alphabet", some "letters"), "letters", "Alphabet.letters", defArgs (inClass (top 25) 2), defBody (inClass (top 25) 2), defScope (inClass (top 25) 2), [], []⟩
def d5 : He.DefD := ⟨("Alphabet", some "taken"), "taken", "Alphabet.taken", defArgs (inClass (top 25) 3), defBody (inClass (top 25) 3), defScope (inClass (top 25) 3), [], []⟩
def d6 : He.DefD := ⟨("Alphabet", some "has"), "has", "Alphabet.has", defArgs (inClass (top 25) 4), defBody (inClass (top 25) 4), defScope (inClass (top 25) 4), [], []⟩
def d7 : He.DefD := ⟨("Alphabet", some "need"), "need", "Alphabet.need", defArgs (inClass (top 25) 5), defBody (inClass (top 25) 5), defScope (inClass (top 25) 5), [], []⟩
def d8 : He.DefD := ⟨("Alphabet", some "read"), "read", "Alphabet.read", defArgs (inClass (top 25) 6), defBody (inClass (top 25) 6), defScope (inClass (top 25) 6), [], []⟩
def d9 : He.DefD := ⟨("_law_cell", none), "_law_cell", "_law_cell", defArgs (top 27), defBody (top 27), defScope (top 27), [], []⟩
def d10 : He.DefD := ⟨("_law_drawn", none), "_law_drawn", "_law_drawn", defArgs (top 28), defBody (top 28), defScope (top 28), [], []⟩
def d11 : He.DefD := ⟨("_law_roll", none), "_law_roll", "_law_roll", defArgs (top 29), defBody (top 29), defScope (top 29), [], []⟩
def d12 : He.DefD := ⟨("_law_rounds", none), "_law_rounds", "_law_rounds", defArgs (top 30), defBody (top 30), defScope (top 30), [], []⟩
def d13 : He.DefD := ⟨("_law_term", none), "_law_term", "_law_term", defArgs (top 31), defBody (top 31), defScope (top 31), [], []⟩
def d14 : He.DefD := ⟨("_law_told", none), "_law_told", "_law_told", defArgs (top 32), defBody (top 32), defScope (top 32), [], []⟩
def d15 : He.DefD := ⟨("_law_letters_in", none), "_law_letters_in", "_law_letters_in", defArgs (top 33), defBody (top 33), defScope (top 33), [], []⟩
def d16 : He.DefD := ⟨("_law_read", none), "_law_read", "_law_read", defArgs (top 34), defBody (top 34), defScope (top 34), [], []⟩
def d17 : He.DefD := ⟨("_law_pool", none), "_law_pool", "_law_pool", defArgs (top 35), defBody (top 35), defScope (top 35), [], []⟩
def d18 : He.DefD := ⟨("_law_any", none), "_law_any", "_law_any", defArgs (top 36), defBody (top 36), defScope (top 36), [], []⟩
def d19 : He.DefD := ⟨("_law_drawn_word", none), "_law_drawn_word", "_law_drawn_word", defArgs (top 37), defBody (top 37), defScope (top 37), [], []⟩
def d20 : He.DefD := ⟨("law", none), "law", "law", defArgs (top 38), defBody (top 38), defScope (top 38), [], []⟩
def d21 : He.DefD := ⟨("Short", some "__init__"), "__init__", "Short.__init__", defArgs (inClass (top 3) 0), defBody (inClass (top 3) 0), defScope (inClass (top 3) 0), [], []⟩
def d22 : He.DefD := ⟨("NoEntry", some "__init__"), "__init__", "NoEntry.__init__", defArgs (inClass (top 4) 0), defBody (inClass (top 4) 0), defScope (inClass (top 4) 0), [], []⟩
def d23 : He.DefD := ⟨("Clash", some "__init__"), "__init__", "Clash.__init__", defArgs (inClass (top 5) 0), defBody (inClass (top 5) 0), defScope (inClass (top 5) 0), [], []⟩
def d24 : He.DefD := ⟨("Unled", some "__init__"), "__init__", "Unled.__init__", defArgs (inClass (top 6) 0), defBody (inClass (top 6) 0), defScope (inClass (top 6) 0), [], []⟩
def d25 : He.DefD := ⟨("BadText", some "__init__"), "__init__", "BadText.__init__", defArgs (inClass (top 7) 0), defBody (inClass (top 7) 0), defScope (inClass (top 7) 0), [], []⟩
def fn : List He.DefD := [d0, d1, d2, d3, d4, d5, d6, d7, d8, d9, d10, d11, d12, d13, d14, d15, d16, d17, d18, d19, d20, d21, d22, d23, d24, d25]
def fa : List He.Fa := [.free "isinstance", .free "str", .free "len", .str "SMALL" "abcdefghijklmnopqrstuvwxyz", .free "all", .glo "is_small", .int "LONGEST" 12, .str "QUIET" "-'", .glo "is_word", .free "list", .free "tuple", .free "set", .glo "Alphabet", .cls "Alphabet", .noat "Alphabet" "row", .free "enumerate", .noat "Alphabet" "table", .mkr "Alphabet", .meth "Alphabet" "__eq__", .meth "Alphabet" "letters", .meth "Alphabet" "taken", .meth "Alphabet" "has", .meth "Alphabet" "need", .meth "Alphabet" "read", .glo "_law_cell", .glo "_law_drawn", .glo "_law_roll", .free "min", .free "max", .free "range", .glo "_law_rounds", .free "int", .free "sum", .free "ValueError", .glo "_law_term", .glo "_law_told", .glo "_law_letters_in", .glo "_law_read", .glo "_law_pool", .glo "_law_any", .glo "_law_drawn_word", .glo "law"]
def tfq : List (He.Defn × PySem.Str) := [(("law", none), lamQ "law")]
def tfs : List He.Defn := [("law", none)]
def ext2s (K : PySem.W.Frag) : List Bool := [isoB K (He.ga K "Alphabet"), eqcB K (He.ga K "Alphabet")]
def ext (K : PySem.W.Frag) : Bool := exTest K && (isTest K && (raTest K && (tabTest tfq K && (ext2s K).all id)))
def names : List PySem.Str := [("_wall" : PySem.Str), ("__name__" : PySem.Str), ("KeepError" : PySem.Str), ("Short" : PySem.Str), ("NoEntry" : PySem.Str), ("Clash" : PySem.Str), ("Unled" : PySem.Str), ("BadText" : PySem.Str), ("BadAlphabet" : PySem.Str), ("BadWord" : PySem.Str), ("BadPattern" : PySem.Str), ("BadEntry" : PySem.Str), ("BadLink" : PySem.Str), ("BadNumber" : PySem.Str), ("BadChoice" : PySem.Str), ("BadTime" : PySem.Str), ("BadEdition" : PySem.Str), ("BadSearch" : PySem.Str), ("Nothing" : PySem.Str), ("SMALL" : PySem.Str), ("QUIET" : PySem.Str), ("LONGEST" : PySem.Str), ("is_small" : PySem.Str), ("is_word" : PySem.Str), ("Alphabet" : PySem.Str), ("_law_cell" : PySem.Str), ("_law_drawn" : PySem.Str), ("_law_roll" : PySem.Str), ("_law_rounds" : PySem.Str), ("_law_term" : PySem.Str), ("_law_told" : PySem.Str), ("_law_letters_in" : PySem.Str), ("_law_read" : PySem.Str), ("_law_pool" : PySem.Str), ("_law_any" : PySem.Str), ("_law_drawn_word" : PySem.Str)]
theorem ok_ex_Short {P : Program} {w : World} {K : PySem.W.Frag} {mg : Str → Option Value} {base : Heap} (V : Ev fa fn K mg) (ra : RaF K) (ef : ExF K mg) : Ex1 P w K mg base "Short" "who" (He.ga K "Short") 1 := by
  obtain ⟨fd, F⟩ := V.c.def_ 21 (d := d21) rfl
  exact ex1_of (who := "who") ra ef (F.bindsN fun _ _ _ _ _ _ us hl => match us, hl with | [_, _], _ => rfl) (ok_exinit (k := 0) (m := "too short") F ⟨rfl, rfl, rfl, by decide +kernel, rfl, by decide +kernel, by decide +kernel⟩ (ra.e1 ("Short", "who") (by decide)).1 (ef.fld ("Short", "who") (by decide)).2 (fun cdv A outer s H E => pe_ownInit rfl (ef.glo "KeepError" (by decide)) ra.rd ra.ga ra.vi (pa_cons (pe_var (i := 0) rfl (.inl rfl)) (pa_cons pe_str pa_nil))) (fun _ _ _ _ _ _ => rfl) rfl rfl (by decide) (by decide))
theorem ok_ex_NoEntry {P : Program} {w : World} {K : PySem.W.Frag} {mg : Str → Option Value} {base : Heap} (V : Ev fa fn K mg) (ra : RaF K) (ef : ExF K mg) : Ex1 P w K mg base "NoEntry" "who" (He.ga K "NoEntry") 1 := by
  obtain ⟨fd, F⟩ := V.c.def_ 22 (d := d22) rfl
  exact ex1_of (who := "who") ra ef (F.bindsN fun _ _ _ _ _ _ us hl => match us, hl with | [_, _], _ => rfl) (ok_exinit (k := 0) (m := "no entry") F ⟨rfl, rfl, rfl, by decide +kernel, rfl, by decide +kernel, by decide +kernel⟩ (ra.e1 ("NoEntry", "who") (by decide)).1 (ef.fld ("NoEntry", "who") (by decide)).2 (fun cdv A outer s H E => pe_ownInit rfl (ef.glo "KeepError" (by decide)) ra.rd ra.ga ra.vi (pa_cons (pe_var (i := 0) rfl (.inl rfl)) (pa_cons pe_str pa_nil))) (fun _ _ _ _ _ _ => rfl) rfl rfl (by decide) (by decide))
theorem ok_ex_Clash {P : Program} {w : World} {K : PySem.W.Frag} {mg : Str → Option Value} {base : Heap} (V : Ev fa fn K mg) (ra : RaF K) (ef : ExF K mg) : Ex1 P w K mg base "Clash" "torn" (He.ga K "Clash") 1 := by
  obtain ⟨fd, F⟩ := V.c.def_ 23 (d := d23) rfl
  exact ex1_of (who := "torn") ra ef (F.bindsN fun _ _ _ _ _ _ us hl => match us, hl with | [_, _], _ => rfl) (ok_exinit (k := 0) (m := "clashes") F ⟨rfl, rfl, rfl, by decide +kernel, rfl, by decide +kernel, by decide +kernel⟩ (ra.e1 ("Clash", "torn") (by decide)).1 (ef.fld ("Clash", "torn") (by decide)).2 (fun cdv A outer s H E => pe_ownInit rfl (ef.glo "KeepError" (by decide)) ra.rd ra.ga ra.vi (pa_cons (pe_var (i := 0) rfl (.inl rfl)) (pa_cons pe_str pa_nil))) (fun _ _ _ _ _ _ => rfl) rfl rfl (by decide) (by decide))
theorem ok_ex_Unled {P : Program} {w : World} {K : PySem.W.Frag} {mg : Str → Option Value} {base : Heap} (V : Ev fa fn K mg) (ra : RaF K) (ef : ExF K mg) : Ex1 P w K mg base "Unled" "named" (He.ga K "Unled") 1 := by
  obtain ⟨fd, F⟩ := V.c.def_ 24 (d := d24) rfl
  exact ex1_of (who := "named") ra ef (F.bindsN fun _ _ _ _ _ _ us hl => match us, hl with | [_, _], _ => rfl) (ok_exinit (k := 0) (m := "not led") F ⟨rfl, rfl, rfl, by decide +kernel, rfl, by decide +kernel, by decide +kernel⟩ (ra.e1 ("Unled", "named") (by decide)).1 (ef.fld ("Unled", "named") (by decide)).2 (fun cdv A outer s H E => pe_ownInit rfl (ef.glo "KeepError" (by decide)) ra.rd ra.ga ra.vi (pa_cons (pe_var (i := 0) rfl (.inl rfl)) (pa_cons pe_str pa_nil))) (fun _ _ _ _ _ _ => rfl) rfl rfl (by decide) (by decide))
theorem ok_ex_BadText {P : Program} {w : World} {K : PySem.W.Frag} {mg : Str → Option Value} {base : Heap} (V : Ev fa fn K mg) (ra : RaF K) (ef : ExF K mg) : Ex1 P w K mg base "BadText" "at" (He.ga K "BadText") 1 := by
  obtain ⟨fd, F⟩ := V.c.def_ 25 (d := d25) rfl
  exact ex1_of (who := "at") ra ef (F.bindsN fun _ _ _ _ _ _ us hl => match us, hl with | [_, _], _ => rfl) (ok_exinit (k := 0) (m := "no text") F ⟨rfl, rfl, rfl, by decide +kernel, rfl, by decide +kernel, by decide +kernel⟩ (ra.e1 ("BadText", "at") (by decide)).1 (ef.fld ("BadText", "at") (by decide)).2 (fun cdv A outer s H E => pe_ownInit rfl (ef.glo "KeepError" (by decide)) ra.rd ra.ga ra.vi (pa_cons (pe_var (i := 0) rfl (.inl rfl)) (pa_cons pe_str pa_nil))) (fun _ _ _ _ _ _ => rfl) rfl rfl (by decide) (by decide))
/-! ### is_small -/
abbrev N_is_small : List PySem.Str := ["thing", "low", "high", "sign"]
def c_is_small_0 : M W := mComp [3] (mItems (mVar 0)) (bName 3) (pureM true) (mOp2 rvIn (mSlot 3) (mTmp (pureM (.fr (.str "abcdefghijklmnopqrstuvwxyz")))))
def m_is_small : MS := mRet (mAndV (mOp1 (rvIsi .str) (mSlot 0)) (mAndV (mChain rvLe rvLe (mSlot 1) (mTmp (mCall rvLenS (mCons (mSlot 0) (mNil)))) (mSlot 2)) (mCall rvAll (mCons (mTmp (c_is_small_0)) (mNil)))))
def F_is_small : Fn := mkF 4 3 m_is_small
theorem sc_is_small : FnScope N_is_small ["thing", "low", "high"] (defScope (top 23)) := ⟨rfl, rfl, rfl, by decide +kernel, rfl, by decide +kernel, by decide +kernel⟩
theorem ok_is_small {P : Program} {w : World} {K : PySem.W.Frag} {mg : Str → Option Value} {base : Heap} {T : Tx} (V : Ev fa fn K mg)  : FnV P w K mg base T "is_small" ["thing", "low", "high"] 1 F_is_small := by
  refine FnV.of (N := N_is_small) (V.glo 5) (V.c.def_ 0 (d := d0) rfl) sc_is_small (fun _ _ _ _ _ _ us hl => match us, hl with | [_, _, _], _ => rfl) fun cdv A outer s H E hr => ?_
  have hN := sc_is_small.nd
  have hu := units1 hr
  have hu1 := units2 hr
  exact (psl_one (psv_ret (pv_and (pv_isi .str rfl (V.free 0) rfl (V.free 1) boot_str (po_slot 0)) (pv_and (pv_chain op_le op2Le op_le op2Le (po_slot 1) (po_of (pv_callB call_len cwLen rfl (V.free 2) PySem.boot_len (pao_cons (po_slot 0) pao_nil))) (po_slot 2)) (pv_one (pv_callB (cr_all rfl) cwAll rfl (V.free 4) boot_all (pao_cons (po_of (pv_comp (own := [("sign", 3)]) (g := (gName 3)) rfl hN (piv_any (pv_var 0)) (blkOk_by (by show blkC N_is_small (defScope (top 23)) _ _ = true; decide +kernel)) (fun _ _ _ _ _ => (pgv_name (i := 3) hN rfl (by first | exact Or.inl rfl | exact Or.inr rfl))) (fun _ _ _ _ _ => pbs_nil) (fun _ _ _ _ _ => (pv_cmp (opIn hu) op2In (po_slot 3) (po_of (pv_gstr (V.str 3))))))) pao_nil)))))))
/-! ### is_word -/
abbrev N_is_word : List PySem.Str := ["thing", "sign"]
def c_is_word_0 : M W := mComp [1] (mItems (mVar 0)) (bName 1) (pureM true) (mOp2 rvIn (mSlot 1) (mTmp (mOp2 rvAdd (mTmp (pureM (.fr (.str "abcdefghijklmnopqrstuvwxyz")))) (mTmp (pureM (.fr (.str "-'")))))))
def m_is_word : MS := mRet (mAndV (mOp1 (rvIsi .str) (mSlot 0)) (mAndV (mChain rvLe rvLe (mTmp (pureM (.fr (.int 1)))) (mTmp (mCall rvLenS (mCons (mSlot 0) (mNil)))) (mTmp (pureM (.fr (.int 12))))) (mCall rvAll (mCons (mTmp (c_is_word_0)) (mNil)))))
def F_is_word : Fn := mkF 2 1 m_is_word
theorem sc_is_word : FnScope N_is_word ["thing"] (defScope (top 24)) := ⟨rfl, rfl, rfl, by decide +kernel, rfl, by decide +kernel, by decide +kernel⟩
theorem ok_is_word {P : Program} {w : World} {K : PySem.W.Frag} {mg : Str → Option Value} {base : Heap} {T : Tx} (V : Ev fa fn K mg)  : FnV P w K mg base T "is_word" ["thing"] 1 F_is_word := by
  refine FnV.of (N := N_is_word) (V.glo 8) (V.c.def_ 1 (d := d1) rfl) sc_is_word (fun _ _ _ _ _ _ us hl => match us, hl with | [_], _ => rfl) fun cdv A outer s H E hr => ?_
  have hN := sc_is_word.nd
  have hu := units1 hr
  have hu1 := units2 hr
  exact (psl_one (psv_ret (pv_and (pv_isi .str rfl (V.free 0) rfl (V.free 1) boot_str (po_slot 0)) (pv_and (pv_chain op_le op2Le op_le op2Le (po_of pv_int) (po_of (pv_callB call_len cwLen rfl (V.free 2) PySem.boot_len (pao_cons (po_slot 0) pao_nil))) (po_of (pv_gint (V.int 6)))) (pv_one (pv_callB (cr_all rfl) cwAll rfl (V.free 4) boot_all (pao_cons (po_of (pv_comp (own := [("sign", 1)]) (g := (gName 1)) rfl hN (piv_any (pv_var 0)) (blkOk_by (by show blkC N_is_word (defScope (top 24)) _ _ = true; decide +kernel)) (fun _ _ _ _ _ => (pgv_name (i := 1) hN rfl (by first | exact Or.inl rfl | exact Or.inr rfl))) (fun _ _ _ _ _ => pbs_nil) (fun _ _ _ _ _ => (pv_cmp (opIn hu) op2In (po_slot 1) (po_of (pv_op2 opAddU op2Add (po_of (pv_gstr (V.str 3))) (po_of (pv_gstr (V.str 7))))))))) pao_nil)))))))
/-! ### Alphabet.__init__ -/
abbrev N_Alphabet_d___init__ : List PySem.Str := ["self", "letters", "at", "one"]
def c_Alphabet_d___init___0 : M W := mComp [3] (mItems (mVar 1)) (bName 3) (pureM true) (mCallF F_is_small (mCons (mTmp (mVar 3)) (mCons (mTmp (pureM (.fr (.int 1)))) (mCons (mTmp (pureM (.fr (.int 2)))) (mNil)))))
def c_Alphabet_d___init___1 : M W := mDComp [2, 3] (mEnumA (mVar 1)) (bTup 2 (bCons (bName 2) (bCons (bName 3) (bNil)))) (pureM true) (mVar 3) (mVar 2)
def m_Alphabet_d___init__ : MS := mSeq (mIfS (mOr (mNot (mTest (mOp1 (rvIsi2 .lst .tup) (mSlot 1)))) (mNot (mTest (mChain rvLe rvLe (mTmp (pureM (.fr (.int 1)))) (mTmp (mCall rvLenS (mCons (mSlot 1) (mNil)))) (mTmp (pureM (.fr (.int 30)))))))) (mRaise "BadAlphabet") (mNext))
    (mSeq (mIfS (mOr (mNot (mTest (mCall rvAll (mCons (mTmp (c_Alphabet_d___init___0)) (mNil))))) (mTest (mOp2 rvLtU (mTmp (mLenSetOfA (mSlot 1))) (mTmp (mCall rvLenS (mCons (mSlot 1) (mNil))))))) (mRaise "BadAlphabet") (mNext))
    (mSeq (mSetF "Alphabet" "row" 0 (mSet (mCall rvTuple (mCons (mSlot 1) (mNil)))))
    (mSetF "Alphabet" "table" 0 (mSet (c_Alphabet_d___init___1)))))
def F_Alphabet_d___init__ : Fn := mkF 4 2 m_Alphabet_d___init__
theorem sc_Alphabet_d___init__ : FnScope N_Alphabet_d___init__ ["self", "letters"] (defScope (inClass (top 25) 0)) := ⟨rfl, rfl, rfl, by decide +kernel, rfl, by decide +kernel, by decide +kernel⟩
theorem ok_Alphabet_d___init__ {P : Program} {w : World} {K : PySem.W.Frag} {mg : Str → Option Value} {base : Heap} {T : Tx} (V : Ev fa fn K mg) (ra : RaF K) (ef : ExF K mg) (h_is_small : FnV P w K mg base T "is_small" ["thing", "low", "high"] 1 F_is_small) : MkV P w K mg base T "Alphabet" ["self", "letters"] 2 F_Alphabet_d___init__ := by
  refine ⟨V.glo 12, V.mkr 17, fnK_of (N := N_Alphabet_d___init__) (V.c.def_ 2 (d := d2) rfl) sc_Alphabet_d___init__ (fun _ _ _ _ _ _ us hl => match us, hl with | [_, _], _ => rfl) fun cdv A outer s H E hr => ?_⟩
  have hN := sc_Alphabet_d___init__.nd
  have hu := units1 hr
  have hu1 := units2 hr
  exact (psl_cons (psv_if (pb_bool (pbw_or (pb_not (pb_val (pv_isi2 .lst .tup rfl (V.free 0) rfl (V.free 9) boot_list rfl (V.free 10) boot_tuple (po_slot 1)))) (pbw_or1 (pb_not (pb_chain op_le op2Le op_le op2Le (po_of pv_int) (po_of (pv_callB call_len cwLen rfl (V.free 2) PySem.boot_len (pao_cons (po_slot 1) pao_nil))) (po_of pv_int))))))
   (psl_one (psv_raise0 rfl takesC (ex0_of ra ef (c := "BadAlphabet"))))
   psl_nil)
    (psl_cons (psv_if (pb_bool (pbw_or (pb_not (pb_val (pv_callB (cr_all rfl) cwAll rfl (V.free 4) boot_all (pao_cons (po_of (pv_comp (own := [("one", 3)]) (g := (gName 3)) rfl hN (piv_any (pv_var 1)) (blkOk_by (by show blkC N_Alphabet_d___init__ (defScope (inClass (top 25) 0)) _ _ = true; decide +kernel)) (fun _ _ _ _ _ => (pgv_name (i := 3) hN rfl (by first | exact Or.inl rfl | exact Or.inr rfl))) (fun _ _ _ _ _ => pbs_nil) (fun _ _ _ _ _ => (pv_fn h_is_small takesX hr (pao_cons (po_of (pv_var 3)) (pao_cons (po_of pv_int) (pao_cons (po_of pv_int) pao_nil))))))) pao_nil)))) (pbw_or1 (pb_cmp (opLtU hr.units) op2LtU (po_of (pv_lenSetOfA rfl rfl (V.free 2) rfl (V.free 11) (po_slot 1))) (po_of (pv_callB call_len cwLen rfl (V.free 2) PySem.boot_len (pao_cons (po_slot 1) pao_nil)))))))
   (psl_one (psv_raise0 rfl takesC (ex0_of ra ef (c := "BadAlphabet"))))
   psl_nil)
    (psl_cons (psv_setF "Alphabet" "row" 0 (V.glo 12) (V.cls 13) (V.noat 14) (pv_set (pv_callTy call_tuple_of cwTuple rfl (V.free 10) boot_tuple (pao_cons (po_slot 1) pao_nil))))
    (psl_one (psv_setF "Alphabet" "table" 0 (V.glo 12) (V.cls 13) (V.noat 16) (pv_set (pv_dcomp (own := [("at", 2), ("one", 3)]) (g := (gTup K 2 (gCons (gName 2) (gCons (gName 3) gNil)))) rfl hN (piv_enumA rfl (V.free 15) (pv_var 1)) (blkOk_by (by show blkC N_Alphabet_d___init__ (defScope (inClass (top 25) 0)) _ _ = true; decide +kernel)) (fun _ _ _ _ _ => (pgv_tup rfl (pgsv_cons (pgv_name (i := 2) hN rfl (by first | exact Or.inl rfl | exact Or.inr rfl)) (pgsv_cons (pgv_name (i := 3) hN rfl (by first | exact Or.inl rfl | exact Or.inr rfl)) pgsv_nil)))) (fun _ _ _ _ _ => pbs_nil) (fun _ _ _ _ _ => (pv_var 3)) (fun _ _ _ _ _ => (pv_var 2)))))))))
/-! ### Alphabet.__eq__ -/
abbrev N_Alphabet_d___eq__ : List PySem.Str := ["self", "other"]
def m_Alphabet_d___eq__ : MS := mRet (mAndV (mOp1 (rvIsiO "Alphabet") (mSlot 1)) (mOp2 rvEq (mTmp (mOp1 (W.fld "Alphabet" "row") (mSlot 0))) (mTmp (mOp1 (W.fld "Alphabet" "row") (mSlot 1)))))
def F_Alphabet_d___eq__ : Fn := mkF 2 2 m_Alphabet_d___eq__
theorem sc_Alphabet_d___eq__ : FnScope N_Alphabet_d___eq__ ["self", "other"] (defScope (inClass (top 25) 1)) := ⟨rfl, rfl, rfl, by decide +kernel, rfl, by decide +kernel, by decide +kernel⟩
theorem ok_Alphabet_d___eq__ {P : Program} {w : World} {K : PySem.W.Frag} {mg : Str → Option Value} {base : Heap} {T : Tx} (V : Ev fa fn K mg) (x2 : (ext2s K).all id = true)  : MtV P w K mg base T "Alphabet" "__eq__" ["self", "other"] 1 F_Alphabet_d___eq__ := by
  refine ⟨V.glo 12, V.cls 13, V.meth 18, fnK_of (N := N_Alphabet_d___eq__) (V.c.def_ 3 (d := d3) rfl) sc_Alphabet_d___eq__ (fun _ _ _ _ _ _ us hl => match us, hl with | [_, _], _ => rfl) fun cdv A outer s H E hr => ?_⟩
  have hN := sc_Alphabet_d___eq__.nd
  have hu := units1 hr
  have hu1 := units2 hr
  exact (psl_one (psv_ret (pv_and (pv_isiO rfl (V.free 0) (V.glo 12) (V.cls 13) (isoB_ok (allAt x2 (i := 0) rfl)) (po_slot 1)) (pv_one (pv_cmp (op_eqD hr.units) op2Eq (po_of (pv_fld "Alphabet" "row" (V.glo 12) (V.cls 13) (V.noat 14) (po_slot 0))) (po_of (pv_fld "Alphabet" "row" (V.glo 12) (V.cls 13) (V.noat 14) (po_slot 1))))))))
/-! ### Alphabet.letters -/
abbrev N_Alphabet_d_letters : List PySem.Str := ["self"]
def m_Alphabet_d_letters : MS := mRet (mSet (mOp1 (W.fld "Alphabet" "row") (mSlot 0)))
def F_Alphabet_d_letters : Fn := mkF 1 1 m_Alphabet_d_letters
theorem sc_Alphabet_d_letters : FnScope N_Alphabet_d_letters ["self"] (defScope (inClass (top 25) 2)) := ⟨rfl, rfl, rfl, by decide +kernel, rfl, by decide +kernel, by decide +kernel⟩
theorem ok_Alphabet_d_letters {P : Program} {w : World} {K : PySem.W.Frag} {mg : Str → Option Value} {base : Heap} {T : Tx} (V : Ev fa fn K mg)  : MtV P w K mg base T "Alphabet" "letters" ["self"] 1 F_Alphabet_d_letters := by
  refine ⟨V.glo 12, V.cls 13, V.meth 19, fnK_of (N := N_Alphabet_d_letters) (V.c.def_ 4 (d := d4) rfl) sc_Alphabet_d_letters (fun _ _ _ _ _ _ us hl => match us, hl with | [_], _ => rfl) fun cdv A outer s H E hr => ?_⟩
  have hN := sc_Alphabet_d_letters.nd
  have hu := units1 hr
  have hu1 := units2 hr
  exact (psl_one (psv_ret (pv_set (pv_fld "Alphabet" "row" (V.glo 12) (V.cls 13) (V.noat 14) (po_slot 0)))))
/-! ### Alphabet.taken -/
abbrev N_Alphabet_d_taken : List PySem.Str := ["self", "word", "found", "at", "long"]
def b_Alphabet_d_taken_0 : MS := mSeq (mAsgS 4 (mIf (mAnd (mTest (mOp2 rvIn (mTmp (mSl rvSl (mSlot 1) (mPart (mVar 3)) (mPart (mOp2 rvAdd (mSlot 3) (mTmp (pureM (.fr (.int 2)))))))) (mTmp (mOp1 (W.fld "Alphabet" "table") (mSlot 0))))) (mTest (mOp2 rvLtU (mTmp (mOp2 rvAdd (mSlot 3) (mTmp (pureM (.fr (.int 1)))))) (mTmp (mCall rvLenS (mCons (mSlot 1) (mNil))))))) (pureM (.fr (.int 2))) (pureM (.fr (.int 1)))))
    (mIfS (mTest (mOp2 rvIn (mTmp (mOp2 rvIx (mSlot 1) (mSlot 3))) (mTmp (pureM (.fr (.str "-'")))))) (mAsgS 3 (mOp2 rvAdd (mSlot 3) (mTmp (pureM (.fr (.int 1)))))) (mIfS (mTest (mOp2 rvIn (mTmp (mSl rvSl (mSlot 1) (mPart (mVar 3)) (mPart (mOp2 rvAdd (mSlot 3) (mSlot 4))))) (mTmp (mOp1 (W.fld "Alphabet" "table") (mSlot 0))))) (mSeq (mDrop (mAppend 2 (mSet (mSl rvSl (mSlot 1) (mPart (mVar 3)) (mPart (mOp2 rvAdd (mSlot 3) (mSlot 4)))))))
    (mAsgS 3 (mOp2 rvAdd (mSlot 3) (mSlot 4)))) (mRet (pureM (.fr .non)))))
def m_Alphabet_d_taken : MS := mSeq (mPar [2, 3] (mCons (mTmp (mWrap .lst (mNil))) (mCons (mTmp (pureM (.fr (.int 0)))) (mNil))))
    (mSeq (mWhile (mTest (mOp2 rvLtU (mSlot 3) (mTmp (mCall rvLenS (mCons (mSlot 1) (mNil)))))) (b_Alphabet_d_taken_0) 100000)
    (mRet (mSet (mIf (mTest (mOp2 rvNe (mSlot 2) (mTmp (mWrap .lst (mNil))))) (mVar 2) (pureM (.fr .non))))))
def F_Alphabet_d_taken : Fn := mkF 5 2 m_Alphabet_d_taken
theorem sc_Alphabet_d_taken : FnScope N_Alphabet_d_taken ["self", "word"] (defScope (inClass (top 25) 3)) := ⟨rfl, rfl, rfl, by decide +kernel, rfl, by decide +kernel, by decide +kernel⟩
theorem ok_Alphabet_d_taken {P : Program} {w : World} {K : PySem.W.Frag} {mg : Str → Option Value} {base : Heap} {T : Tx} (V : Ev fa fn K mg)  : MtV P w K mg base T "Alphabet" "taken" ["self", "word"] 1 F_Alphabet_d_taken := by
  refine ⟨V.glo 12, V.cls 13, V.meth 20, fnK_of (N := N_Alphabet_d_taken) (V.c.def_ 5 (d := d5) rfl) sc_Alphabet_d_taken (fun _ _ _ _ _ _ us hl => match us, hl with | [_, _], _ => rfl) fun cdv A outer s H E hr => ?_⟩
  have hN := sc_Alphabet_d_taken.nd
  have hu := units1 hr
  have hu1 := units2 hr
  exact (psl_cons (psv_par (i := 2) (j := 3) rfl hN (pao_cons (po_of (pv_lst pao_nil)) (pao_cons (po_of pv_int) pao_nil)))
    (psl_cons (psv_while 100000 passC (pb_cmp (opLtU hr.units) op2LtU (po_slot 3) (po_of (pv_callB call_len cwLen rfl (V.free 2) PySem.boot_len (pao_cons (po_slot 1) pao_nil))))
   (psl_cons (psv_asgS (i := 4) hN rfl (by first | exact Or.inl rfl | exact Or.inr rfl) (pv_if (pb_bool (pbw_and (pb_cmp (opIn hu) op2In (po_of (pv_sl slU slWU (po_slot 1) (psl_some (pv_var 3)) (psl_some (pv_op2 opAddU op2Add (po_slot 3) (po_of pv_int))))) (po_of (pv_fld "Alphabet" "table" (V.glo 12) (V.cls 13) (V.noat 16) (po_slot 0)))) (pbw_and1 (pb_cmp (opLtU hr.units) op2LtU (po_of (pv_op2 opAddU op2Add (po_slot 3) (po_of pv_int))) (po_of (pv_callB call_len cwLen rfl (V.free 2) PySem.boot_len (pao_cons (po_slot 1) pao_nil))))))) pv_int pv_int))
    (psl_one (psv_if (pb_cmp (opIn hu) op2In (po_of (pv_ix (ixU hu1) op2Ix (po_slot 1) (po_slot 3))) (po_of (pv_gstr (V.str 7))))
   (psl_one (psv_asgS (i := 3) hN rfl (by first | exact Or.inl rfl | exact Or.inr rfl) (pv_op2 opAddU op2Add (po_slot 3) (po_of pv_int))))
   (psl_one (psv_if (pb_cmp (opIn hu) op2In (po_of (pv_sl slU slWU (po_slot 1) (psl_some (pv_var 3)) (psl_some (pv_op2 opAddU op2Add (po_slot 3) (po_slot 4))))) (po_of (pv_fld "Alphabet" "table" (V.glo 12) (V.cls 13) (V.noat 16) (po_slot 0))))
   (psl_cons (psv_expr (pv_append 2 (pv_set (pv_sl slU slWU (po_slot 1) (psl_some (pv_var 3)) (psl_some (pv_op2 opAddU op2Add (po_slot 3) (po_slot 4)))))))
    (psl_one (psv_asgS (i := 3) hN rfl (by first | exact Or.inl rfl | exact Or.inr rfl) (pv_op2 opAddU op2Add (po_slot 3) (po_slot 4)))))
   (psl_one (psv_ret pv_non))))))))
    (psl_one (psv_ret (pv_set (pv_if (pb_cmp (op_neD hr.units) op2Ne (po_slot 2) (po_of (pv_lst pao_nil))) (pv_var 2) pv_non))))))
/-! ### Alphabet.has -/
abbrev N_Alphabet_d_has : List PySem.Str := ["self", "word"]
def m_Alphabet_d_has : MS := mRet (mAndV (mCallF F_is_word (mCons (mTmp (mVar 1)) (mNil))) (mOp2 rvNotU (mTmp (mMethF "Alphabet" "taken" F_Alphabet_d_taken (mSlot 0) (mCons (mTmp (mVar 1)) (mNil)))) (mTmp (pureM (.fr .non)))))
def F_Alphabet_d_has : Fn := mkF 2 2 m_Alphabet_d_has
theorem sc_Alphabet_d_has : FnScope N_Alphabet_d_has ["self", "word"] (defScope (inClass (top 25) 4)) := ⟨rfl, rfl, rfl, by decide +kernel, rfl, by decide +kernel, by decide +kernel⟩
theorem ok_Alphabet_d_has {P : Program} {w : World} {K : PySem.W.Frag} {mg : Str → Option Value} {base : Heap} {T : Tx} (V : Ev fa fn K mg) (h_Alphabet_d_taken : MtV P w K mg base T "Alphabet" "taken" ["self", "word"] 1 F_Alphabet_d_taken) (h_is_word : FnV P w K mg base T "is_word" ["thing"] 1 F_is_word) : MtV P w K mg base T "Alphabet" "has" ["self", "word"] 2 F_Alphabet_d_has := by
  refine ⟨V.glo 12, V.cls 13, V.meth 21, fnK_of (N := N_Alphabet_d_has) (V.c.def_ 6 (d := d6) rfl) sc_Alphabet_d_has (fun _ _ _ _ _ _ us hl => match us, hl with | [_, _], _ => rfl) fun cdv A outer s H E hr => ?_⟩
  have hN := sc_Alphabet_d_has.nd
  have hu := units1 hr
  have hu1 := units2 hr
  exact (psl_one (psv_ret (pv_and (pv_fn h_is_word takesC hr (pao_cons (po_of (pv_var 1)) pao_nil)) (pv_one (pv_cmp opNotU op2NotU (po_of (pv_meth h_Alphabet_d_taken takesC hr (po_slot 0) (pao_cons (po_of (pv_var 1)) pao_nil))) (po_of pv_non))))))
/-! ### Alphabet.need -/
abbrev N_Alphabet_d_need : List PySem.Str := ["self", "word"]
def m_Alphabet_d_need : MS := mIfS (mNot (mTest (mMethF "Alphabet" "has" F_Alphabet_d_has (mSlot 0) (mCons (mTmp (mVar 1)) (mNil))))) (mRaise "BadWord") (mNext)
def F_Alphabet_d_need : Fn := mkF 2 2 m_Alphabet_d_need
theorem sc_Alphabet_d_need : FnScope N_Alphabet_d_need ["self", "word"] (defScope (inClass (top 25) 5)) := ⟨rfl, rfl, rfl, by decide +kernel, rfl, by decide +kernel, by decide +kernel⟩
theorem ok_Alphabet_d_need {P : Program} {w : World} {K : PySem.W.Frag} {mg : Str → Option Value} {base : Heap} {T : Tx} (V : Ev fa fn K mg) (ra : RaF K) (ef : ExF K mg) (h_Alphabet_d_has : MtV P w K mg base T "Alphabet" "has" ["self", "word"] 2 F_Alphabet_d_has) : MtV P w K mg base T "Alphabet" "need" ["self", "word"] 3 F_Alphabet_d_need := by
  refine ⟨V.glo 12, V.cls 13, V.meth 22, fnK_of (N := N_Alphabet_d_need) (V.c.def_ 7 (d := d7) rfl) sc_Alphabet_d_need (fun _ _ _ _ _ _ us hl => match us, hl with | [_, _], _ => rfl) fun cdv A outer s H E hr => ?_⟩
  have hN := sc_Alphabet_d_need.nd
  have hu := units1 hr
  have hu1 := units2 hr
  exact (psl_one (psv_if (pb_not (pb_val (pv_meth h_Alphabet_d_has takesC hr (po_slot 0) (pao_cons (po_of (pv_var 1)) pao_nil))))
   (psl_one (psv_raise0 rfl takesC (ex0_of ra ef (c := "BadWord"))))
   psl_nil))
/-! ### Alphabet.read -/
abbrev N_Alphabet_d_read : List PySem.Str := ["self", "word"]
def m_Alphabet_d_read : MS := mSeq (mDrop (mMethF "Alphabet" "need" F_Alphabet_d_need (mSlot 0) (mCons (mTmp (mVar 1)) (mNil))))
    (mRet (mSet (mMethF "Alphabet" "taken" F_Alphabet_d_taken (mSlot 0) (mCons (mTmp (mVar 1)) (mNil)))))
def F_Alphabet_d_read : Fn := mkF 2 2 m_Alphabet_d_read
theorem sc_Alphabet_d_read : FnScope N_Alphabet_d_read ["self", "word"] (defScope (inClass (top 25) 6)) := ⟨rfl, rfl, rfl, by decide +kernel, rfl, by decide +kernel, by decide +kernel⟩
theorem ok_Alphabet_d_read {P : Program} {w : World} {K : PySem.W.Frag} {mg : Str → Option Value} {base : Heap} {T : Tx} (V : Ev fa fn K mg) (h_Alphabet_d_need : MtV P w K mg base T "Alphabet" "need" ["self", "word"] 3 F_Alphabet_d_need) (h_Alphabet_d_taken : MtV P w K mg base T "Alphabet" "taken" ["self", "word"] 1 F_Alphabet_d_taken) : MtV P w K mg base T "Alphabet" "read" ["self", "word"] 4 F_Alphabet_d_read := by
  refine ⟨V.glo 12, V.cls 13, V.meth 23, fnK_of (N := N_Alphabet_d_read) (V.c.def_ 8 (d := d8) rfl) sc_Alphabet_d_read (fun _ _ _ _ _ _ us hl => match us, hl with | [_, _], _ => rfl) fun cdv A outer s H E hr => ?_⟩
  have hN := sc_Alphabet_d_read.nd
  have hu := units1 hr
  have hu1 := units2 hr
  exact (psl_cons (psv_expr (pv_meth h_Alphabet_d_need takesC hr (po_slot 0) (pao_cons (po_of (pv_var 1)) pao_nil)))
    (psl_one (psv_ret (pv_set (pv_meth h_Alphabet_d_taken takesC hr (po_slot 0) (pao_cons (po_of (pv_var 1)) pao_nil))))))
/-! ### _law_cell -/
abbrev N__law_cell : List PySem.Str := ["_law_script", "_law_k"]
def m__law_cell : MS := mSeq (mIfS (mTest (mOp2 rvEq (mSlot 0) (mTmp (mWrap .lst (mNil))))) (mRet (mSet (mOp2 rvMul (mSlot 1) (mTmp (pureM (.fr (.int 7919))))))) (mNext))
    (mRet (mSet (mOp2 rvAdd (mTmp (mOp2 rvIx (mSlot 0) (mTmp (mOp2 rvMod (mSlot 1) (mTmp (mCall rvLenS (mCons (mSlot 0) (mNil)))))))) (mTmp (mOp2 rvMul (mTmp (mOp2 rvDiv (mSlot 1) (mTmp (mCall rvLenS (mCons (mSlot 0) (mNil)))))) (mTmp (pureM (.fr (.int 104729)))))))))
def F__law_cell : Fn := mkF 2 2 m__law_cell
theorem sc__law_cell : FnScope N__law_cell ["_law_script", "_law_k"] (defScope (top 27)) := ⟨rfl, rfl, rfl, by decide +kernel, rfl, by decide +kernel, by decide +kernel⟩
theorem ok__law_cell {P : Program} {w : World} {K : PySem.W.Frag} {mg : Str → Option Value} {base : Heap} {T : Tx} (V : Ev fa fn K mg)  : FnV P w K mg base T "_law_cell" ["_law_script", "_law_k"] 1 F__law_cell := by
  refine FnV.of (N := N__law_cell) (V.glo 24) (V.c.def_ 9 (d := d9) rfl) sc__law_cell (fun _ _ _ _ _ _ us hl => match us, hl with | [_, _], _ => rfl) fun cdv A outer s H E hr => ?_
  have hN := sc__law_cell.nd
  have hu := units1 hr
  have hu1 := units2 hr
  exact (psl_cons (psv_if (pb_cmp (op_eqD hr.units) op2Eq (po_slot 0) (po_of (pv_lst pao_nil)))
   (psl_one (psv_ret (pv_set (pv_op2 opMulU op2Mul (po_slot 1) (po_of pv_int)))))
   psl_nil)
    (psl_one (psv_ret (pv_set (pv_op2 opAddU op2Add (po_of (pv_ix (ixU hu1) op2Ix (po_slot 0) (po_of (pv_op2 op_mod op2Mod (po_slot 1) (po_of (pv_callB call_len cwLen rfl (V.free 2) PySem.boot_len (pao_cons (po_slot 0) pao_nil))))))) (po_of (pv_op2 opMulU op2Mul (po_of (pv_op2 op_fdivW op2Div (po_slot 1) (po_of (pv_callB call_len cwLen rfl (V.free 2) PySem.boot_len (pao_cons (po_slot 0) pao_nil))))) (po_of pv_int))))))))
/-! ### _law_drawn -/
abbrev N__law_drawn : List PySem.Str := ["_law_cell_here", "_law_k", "_law_more"]
def m__law_drawn : MS := mSeq (mAsgS 2 (mOp2 rvMod (mTmp (mOp2 rvAdd (mTmp (mOp2 rvMul (mSlot 0) (mTmp (pureM (.fr (.int 6364136223846793005)))))) (mTmp (mOp2 rvMul (mTmp (mOp2 rvAdd (mSlot 1) (mTmp (pureM (.fr (.int 1)))))) (mTmp (pureM (.fr (.int 1442695040888963407)))))))) (mTmp (pureM (.fr (.int 340282366920938463463374607431768211507))))))
    (mSeq (mAsgS 2 (mOp2 rvMod (mTmp (mOp2 rvMul (mSlot 2) (mSlot 2))) (mTmp (pureM (.fr (.int 340282366920938463463374607431768211297))))))
    (mSeq (mAsgS 2 (mOp2 rvMul (mTmp (mOp2 rvMul (mTmp (mOp2 rvAdd (mTmp (mOp2 rvMod (mSlot 2) (mTmp (pureM (.fr (.int 18446744073709551557)))))) (mTmp (pureM (.fr (.int 1)))))) (mTmp (mOp2 rvAdd (mTmp (mOp2 rvDiv (mSlot 2) (mTmp (pureM (.fr (.int 18446744073709551557)))))) (mTmp (pureM (.fr (.int 1)))))))) (mSlot 2)))
    (mRet (mSet (mOp2 rvMod (mSlot 2) (mTmp (pureM (.fr (.int 340282366920938463463374607431768211507)))))))))
def F__law_drawn : Fn := mkF 3 2 m__law_drawn
theorem sc__law_drawn : FnScope N__law_drawn ["_law_cell_here", "_law_k"] (defScope (top 28)) := ⟨rfl, rfl, rfl, by decide +kernel, rfl, by decide +kernel, by decide +kernel⟩
theorem ok__law_drawn {P : Program} {w : World} {K : PySem.W.Frag} {mg : Str → Option Value} {base : Heap} {T : Tx} (V : Ev fa fn K mg)  : FnV P w K mg base T "_law_drawn" ["_law_cell_here", "_law_k"] 1 F__law_drawn := by
  refine FnV.of (N := N__law_drawn) (V.glo 25) (V.c.def_ 10 (d := d10) rfl) sc__law_drawn (fun _ _ _ _ _ _ us hl => match us, hl with | [_, _], _ => rfl) fun cdv A outer s H E hr => ?_
  have hN := sc__law_drawn.nd
  have hu := units1 hr
  have hu1 := units2 hr
  exact (psl_cons (psv_asgS (i := 2) hN rfl (by first | exact Or.inl rfl | exact Or.inr rfl) (pv_op2 op_mod op2Mod (po_of (pv_op2 opAddU op2Add (po_of (pv_op2 opMulU op2Mul (po_slot 0) (po_of pv_int))) (po_of (pv_op2 opMulU op2Mul (po_of (pv_op2 opAddU op2Add (po_slot 1) (po_of pv_int))) (po_of pv_int))))) (po_of pv_int)))
    (psl_cons (psv_asgS (i := 2) hN rfl (by first | exact Or.inl rfl | exact Or.inr rfl) (pv_op2 op_mod op2Mod (po_of (pv_op2 opMulU op2Mul (po_slot 2) (po_slot 2))) (po_of pv_int)))
    (psl_cons (psv_asgS (i := 2) hN rfl (by first | exact Or.inl rfl | exact Or.inr rfl) (pv_op2 opMulU op2Mul (po_of (pv_op2 opMulU op2Mul (po_of (pv_op2 opAddU op2Add (po_of (pv_op2 op_mod op2Mod (po_slot 2) (po_of pv_int))) (po_of pv_int))) (po_of (pv_op2 opAddU op2Add (po_of (pv_op2 op_fdivW op2Div (po_slot 2) (po_of pv_int))) (po_of pv_int))))) (po_slot 2)))
    (psl_one (psv_ret (pv_set (pv_op2 op_mod op2Mod (po_slot 2) (po_of pv_int))))))))
/-! ### _law_roll -/
abbrev N__law_roll : List PySem.Str := ["_law_dice", "_law_many", "_law_told_here"]
def m__law_roll : MS := mSeq (mIfS (mTest (mOp2 rvGe (mTmp (mOp2 rvIx (mSlot 0) (mTmp (pureM (.fr (.int 0)))))) (mTmp (mOp2 rvPow (mTmp (pureM (.fr (.int 10)))) (mTmp (pureM (.fr (.int 18)))))))) (mSeq (mAsgS 2 (mOp2 rvMod (mTmp (mOp2 rvIx (mSlot 0) (mTmp (pureM (.fr (.int 0)))))) (mSlot 1)))
    (mSeq (mSetI 0 (mSet (mOp2 rvDiv (mTmp (mOp2 rvIx (mSlot 0) (mTmp (pureM (.fr (.int 0)))))) (mSlot 1))) (pureM (.fr (.int 0))))
    (mRet (mVar 2)))) (mNext))
    (mSeq (mSetI 0 (mSet (mOp2 rvAdd (mTmp (mOp2 rvIx (mSlot 0) (mTmp (pureM (.fr (.int 1)))))) (mTmp (pureM (.fr (.int 1)))))) (pureM (.fr (.int 1))))
    (mRet (mSet (mOp2 rvMod (mTmp (mOp2 rvDiv (mTmp (mCallF F__law_drawn (mCons (mTmp (mOp2 rvIx (mSlot 0) (mTmp (pureM (.fr (.int 0)))))) (mCons (mTmp (mOp2 rvIx (mSlot 0) (mTmp (pureM (.fr (.int 1)))))) (mNil))))) (mTmp (pureM (.fr (.int 8)))))) (mSlot 1)))))
def F__law_roll : Fn := mkF 3 2 m__law_roll
theorem sc__law_roll : FnScope N__law_roll ["_law_dice", "_law_many"] (defScope (top 29)) := ⟨rfl, rfl, rfl, by decide +kernel, rfl, by decide +kernel, by decide +kernel⟩
theorem ok__law_roll {P : Program} {w : World} {K : PySem.W.Frag} {mg : Str → Option Value} {base : Heap} {T : Tx} (V : Ev fa fn K mg) (h__law_drawn : FnV P w K mg base T "_law_drawn" ["_law_cell_here", "_law_k"] 1 F__law_drawn) : FnV P w K mg base T "_law_roll" ["_law_dice", "_law_many"] 2 F__law_roll := by
  refine FnV.of (N := N__law_roll) (V.glo 26) (V.c.def_ 11 (d := d11) rfl) sc__law_roll (fun _ _ _ _ _ _ us hl => match us, hl with | [_, _], _ => rfl) fun cdv A outer s H E hr => ?_
  have hN := sc__law_roll.nd
  have hu := units1 hr
  have hu1 := units2 hr
  exact (psl_cons (psv_if (pb_cmp op_ge op2Ge (po_of (pv_ix (ixU hu1) op2Ix (po_slot 0) (po_of pv_int))) (po_of (pv_op2 op_pow op2Pow (po_of pv_int) (po_of pv_int))))
   (psl_cons (psv_asgS (i := 2) hN rfl (by first | exact Or.inl rfl | exact Or.inr rfl) (pv_op2 op_mod op2Mod (po_of (pv_ix (ixU hu1) op2Ix (po_slot 0) (po_of pv_int))) (po_slot 1)))
    (psl_cons (psv_setI 0 (pv_set (pv_op2 op_fdivW op2Div (po_of (pv_ix (ixU hu1) op2Ix (po_slot 0) (po_of pv_int))) (po_slot 1))) pv_int)
    (psl_one (psv_ret (pv_var 2)))))
   psl_nil)
    (psl_cons (psv_setI 0 (pv_set (pv_op2 opAddU op2Add (po_of (pv_ix (ixU hu1) op2Ix (po_slot 0) (po_of pv_int))) (po_of pv_int))) pv_int)
    (psl_one (psv_ret (pv_set (pv_op2 op_mod op2Mod (po_of (pv_op2 op_fdivW op2Div (po_of (pv_fn h__law_drawn takesC hr (pao_cons (po_of (pv_ix (ixU hu1) op2Ix (po_slot 0) (po_of pv_int))) (pao_cons (po_of (pv_ix (ixU hu1) op2Ix (po_slot 0) (po_of pv_int))) pao_nil)))) (po_of pv_int))) (po_slot 1)))))))
/-! ### _law_rounds -/
abbrev N__law_rounds : List PySem.Str := ["_law_script", "_law_most", "_law_k"]
def c__law_rounds_0 : M W := mComp [2] (mRange (mCons (mTmp (mCall rvMax2 (mCons (mTmp (pureM (.fr (.int 1)))) (mCons (mTmp (mCall rvMin2 (mCons (mSlot 1) (mCons (mTmp (mCall rvLenS (mCons (mSlot 0) (mNil)))) (mNil))))) (mNil))))) (mNil))) (bName 2) (pureM true) (mWrap .lst (mCons (mTmp (mCallF F__law_cell (mCons (mTmp (mVar 0)) (mCons (mTmp (mVar 2)) (mNil))))) (mCons (mTmp (pureM (.fr (.int 0)))) (mNil))))
def m__law_rounds : MS := mRet (c__law_rounds_0)
def F__law_rounds : Fn := mkF 3 2 m__law_rounds
theorem sc__law_rounds : FnScope N__law_rounds ["_law_script", "_law_most"] (defScope (top 30)) := ⟨rfl, rfl, rfl, by decide +kernel, rfl, by decide +kernel, by decide +kernel⟩
theorem ok__law_rounds {P : Program} {w : World} {K : PySem.W.Frag} {mg : Str → Option Value} {base : Heap} {T : Tx} (V : Ev fa fn K mg) (h__law_cell : FnV P w K mg base T "_law_cell" ["_law_script", "_law_k"] 1 F__law_cell) : FnV P w K mg base T "_law_rounds" ["_law_script", "_law_most"] 2 F__law_rounds := by
  refine FnV.of (N := N__law_rounds) (V.glo 30) (V.c.def_ 12 (d := d12) rfl) sc__law_rounds (fun _ _ _ _ _ _ us hl => match us, hl with | [_, _], _ => rfl) fun cdv A outer s H E hr => ?_
  have hN := sc__law_rounds.nd
  have hu := units1 hr
  have hu1 := units2 hr
  exact (psl_one (psv_ret (pv_comp (own := [("_law_k", 2)]) (g := (gName 2)) rfl hN (piv_range rfl (V.free 29) (pao_cons (po_of (pv_callB (call_max2 rfl) cwMax2 rfl (V.free 28) boot_max (pao_cons (po_of pv_int) (pao_cons (po_of (pv_callB (call_min2 rfl) cwMin2 rfl (V.free 27) boot_min (pao_cons (po_slot 1) (pao_cons (po_of (pv_callB call_len cwLen rfl (V.free 2) PySem.boot_len (pao_cons (po_slot 0) pao_nil))) pao_nil)))) pao_nil)))) pao_nil)) (blkOk_by (by show blkC N__law_rounds (defScope (top 30)) _ _ = true; decide +kernel)) (fun _ _ _ _ _ => (pgv_name (i := 2) hN rfl (by first | exact Or.inl rfl | exact Or.inr rfl))) (fun _ _ _ _ _ => pbs_nil) (fun _ _ _ _ _ => (pv_lst (pao_cons (po_of (pv_fn h__law_cell takesX hr (pao_cons (po_of (pv_var 0)) (pao_cons (po_of (pv_var 2)) pao_nil)))) (pao_cons (po_of pv_int) pao_nil)))))))
/-! ### _law_term -/
abbrev N__law_term : List PySem.Str := ["_law_e", "_law_flags", "_law_terms", "_law_flag"]
def m__law_term (c : PySem.Str) : MS := mSeq (mAsgS 1 (mWrap .lst (mCons (mTmp (mIsX 0 (c == ("Short" : PySem.Str)))) (mCons (mTmp (mIsX 0 (c == ("NoEntry" : PySem.Str)))) (mCons (mTmp (mIsX 0 (c == ("Clash" : PySem.Str)))) (mNil))))))
    (mSeq (mAsgS 1 (mOp2 rvAdd (mSlot 1) (mTmp (mWrap .lst (mCons (mTmp (mIsX 0 (c == ("Unled" : PySem.Str)))) (mCons (mTmp (mIsX 0 (c == ("BadText" : PySem.Str)))) (mCons (mTmp (mIsX 0 (c == ("BadAlphabet" : PySem.Str)))) (mNil))))))))
    (mSeq (mAsgS 1 (mOp2 rvAdd (mSlot 1) (mTmp (mWrap .lst (mCons (mTmp (mIsX 0 (c == ("BadWord" : PySem.Str)))) (mCons (mTmp (mIsX 0 (c == ("BadPattern" : PySem.Str)))) (mCons (mTmp (mIsX 0 (c == ("BadEntry" : PySem.Str)))) (mNil))))))))
    (mSeq (mAsgS 1 (mOp2 rvAdd (mSlot 1) (mTmp (mWrap .lst (mCons (mTmp (mIsX 0 (c == ("BadLink" : PySem.Str)))) (mCons (mTmp (mIsX 0 (c == ("BadNumber" : PySem.Str)))) (mCons (mTmp (mIsX 0 (c == ("BadChoice" : PySem.Str)))) (mNil))))))))
    (mSeq (mAsgS 1 (mOp2 rvAdd (mSlot 1) (mTmp (mWrap .lst (mCons (mTmp (mIsX 0 (c == ("BadTime" : PySem.Str)))) (mCons (mTmp (mIsX 0 (c == ("BadEdition" : PySem.Str)))) (mCons (mTmp (mIsX 0 (c == ("BadSearch" : PySem.Str)))) (mNil))))))))
    (mSeq (mAsgS 1 (mOp2 rvAdd (mSlot 1) (mTmp (mWrap .lst (mCons (mTmp (mIsX 0 (c == ("Nothing" : PySem.Str)))) (mNil))))))
    (mSeq (mAsgS 2 (mWrap .lst (mCons (mTmp (pureM (.fr (.str "Short")))) (mCons (mTmp (pureM (.fr (.str "NoEntry")))) (mCons (mTmp (pureM (.fr (.str "Clash")))) (mCons (mTmp (pureM (.fr (.str "Unled")))) (mCons (mTmp (pureM (.fr (.str "BadText")))) (mCons (mTmp (pureM (.fr (.str "BadAlphabet")))) (mCons (mTmp (pureM (.fr (.str "BadWord")))) (mNil))))))))))
    (mSeq (mAsgS 2 (mOp2 rvAdd (mSlot 2) (mTmp (mWrap .lst (mCons (mTmp (pureM (.fr (.str "BadPattern")))) (mCons (mTmp (pureM (.fr (.str "BadEntry")))) (mCons (mTmp (pureM (.fr (.str "BadLink")))) (mCons (mTmp (pureM (.fr (.str "BadNumber")))) (mCons (mTmp (pureM (.fr (.str "BadChoice")))) (mCons (mTmp (pureM (.fr (.str "BadTime")))) (mNil)))))))))))
    (mSeq (mAsgS 2 (mOp2 rvAdd (mSlot 2) (mTmp (mWrap .lst (mCons (mTmp (pureM (.fr (.str "BadEdition")))) (mCons (mTmp (pureM (.fr (.str "BadSearch")))) (mCons (mTmp (pureM (.fr (.str "Nothing")))) (mNil))))))))
    (mSeq (mIfS (mOr (mTest (mOp2 rvNe (mTmp (mCall rvSum (mCons (mTmp (mFlags 1 3)) (mNil)))) (mTmp (pureM (.fr (.int 1)))))) (mNot (mTest (mIsX 0 true)))) (mRet (mCall rvTup (mCons (mTmp (pureM (.fr (.str "refused")))) (mCons (mTmp (pureM (.fr (.str "other")))) (mNil))))) (mNext))
    (mRet (mCall rvTup (mCons (mTmp (pureM (.fr (.str "refused")))) (mCons (mTmp (mOp2 rvIx (mSlot 2) (mTmp (mBM W.isLst rvIndex (mSlot 1) (mCons (mTmp (pureM (.fr (.bl true)))) (mNil)))))) (mNil))))))))))))))
def F__law_term : PySem.Str → Fn := fun c => mkF 4 1 (m__law_term c)
theorem sc__law_term : FnScope N__law_term ["_law_e"] (defScope (top 31)) := ⟨rfl, rfl, rfl, by decide +kernel, rfl, by decide +kernel, by decide +kernel⟩
theorem ev__law_term : ∀ c ∈ exNames, F__law_term c [.fr .exc] = some (.ok (.fr (refD c)), [.fr .exc]) := by
  intro c hc
  simp only [exNames, List.mem_cons, List.not_mem_nil, or_false] at hc
  rcases hc with rfl | rfl | rfl | rfl | rfl | rfl | rfl | rfl | rfl | rfl | rfl | rfl | rfl | rfl | rfl | rfl <;> kernel_rfl
theorem ok__law_term {P : Program} {w : World} {K : PySem.W.Frag} {mg : Str → Option Value} {base : Heap} {Tl : List (Addr × Str)} (V : Ev fa fn K mg) (is : IsF K) (ef : ExF K mg) : TermF P w K mg base "_law_term" "_law_e" Tl F__law_term 1 := by
  refine termF_of (k := 0) (N := N__law_term) (m := m__law_term) (V.glo 34) (V.c.def_ 13 (d := d13) rfl) sc__law_term (fun _ _ _ _ _ _ us hl => match us, hl with | [_], _ => rfl) (fun p c d hc hz hf cdv A outer s H E hot hr => ?_) ev__law_term
  have hN := sc__law_term.nd
  have hrU := unitsH hr
  have hu := units1H hr
  have hu1 := units2H hr
  have hp : HotP (L2H.cxH (L2N.CX P w) P w K mg base N__law_term "_law_term" (defScope (top 31)) (He.ga K "_law_term") cdv A outer s H E p) p := ⟨⟨hot.1, hot.2⟩, List.mem_cons_self ..⟩
  exact (psl_cons (psv_asgS (i := 1) hN rfl (by first | exact Or.inl rfl | exact Or.inr rfl) (pv_lst (pao_cons (po_of (pv_isX (i := 0) rfl rfl (List.mem_cons_self ..) (is.c c hc) hz.zc hf rfl (V.free 0) (pe_glob (v := .ref (He.ga K "Short")) rfl (ef.glo "Short" (by decide)) rfl) relV_ref (is.is c hc "Short" (by decide)))) (pao_cons (po_of (pv_isX (i := 0) rfl rfl (List.mem_cons_self ..) (is.c c hc) hz.zc hf rfl (V.free 0) (pe_glob (v := .ref (He.ga K "NoEntry")) rfl (ef.glo "NoEntry" (by decide)) rfl) relV_ref (is.is c hc "NoEntry" (by decide)))) (pao_cons (po_of (pv_isX (i := 0) rfl rfl (List.mem_cons_self ..) (is.c c hc) hz.zc hf rfl (V.free 0) (pe_glob (v := .ref (He.ga K "Clash")) rfl (ef.glo "Clash" (by decide)) rfl) relV_ref (is.is c hc "Clash" (by decide)))) pao_nil)))))
    (psl_cons (psv_asgS (i := 1) hN rfl (by first | exact Or.inl rfl | exact Or.inr rfl) (pv_op2 opAddU op2Add (po_slot 1) (po_of (pv_lst (pao_cons (po_of (pv_isX (i := 0) rfl rfl (List.mem_cons_self ..) (is.c c hc) hz.zc hf rfl (V.free 0) (pe_glob (v := .ref (He.ga K "Unled")) rfl (ef.glo "Unled" (by decide)) rfl) relV_ref (is.is c hc "Unled" (by decide)))) (pao_cons (po_of (pv_isX (i := 0) rfl rfl (List.mem_cons_self ..) (is.c c hc) hz.zc hf rfl (V.free 0) (pe_glob (v := .ref (He.ga K "BadText")) rfl (ef.glo "BadText" (by decide)) rfl) relV_ref (is.is c hc "BadText" (by decide)))) (pao_cons (po_of (pv_isX (i := 0) rfl rfl (List.mem_cons_self ..) (is.c c hc) hz.zc hf rfl (V.free 0) (pe_glob (v := .ref (He.ga K "BadAlphabet")) rfl (ef.glo "BadAlphabet" (by decide)) rfl) relV_ref (is.is c hc "BadAlphabet" (by decide)))) pao_nil)))))))
    (psl_cons (psv_asgS (i := 1) hN rfl (by first | exact Or.inl rfl | exact Or.inr rfl) (pv_op2 opAddU op2Add (po_slot 1) (po_of (pv_lst (pao_cons (po_of (pv_isX (i := 0) rfl rfl (List.mem_cons_self ..) (is.c c hc) hz.zc hf rfl (V.free 0) (pe_glob (v := .ref (He.ga K "BadWord")) rfl (ef.glo "BadWord" (by decide)) rfl) relV_ref (is.is c hc "BadWord" (by decide)))) (pao_cons (po_of (pv_isX (i := 0) rfl rfl (List.mem_cons_self ..) (is.c c hc) hz.zc hf rfl (V.free 0) (pe_glob (v := .ref (He.ga K "BadPattern")) rfl (ef.glo "BadPattern" (by decide)) rfl) relV_ref (is.is c hc "BadPattern" (by decide)))) (pao_cons (po_of (pv_isX (i := 0) rfl rfl (List.mem_cons_self ..) (is.c c hc) hz.zc hf rfl (V.free 0) (pe_glob (v := .ref (He.ga K "BadEntry")) rfl (ef.glo "BadEntry" (by decide)) rfl) relV_ref (is.is c hc "BadEntry" (by decide)))) pao_nil)))))))
    (psl_cons (psv_asgS (i := 1) hN rfl (by first | exact Or.inl rfl | exact Or.inr rfl) (pv_op2 opAddU op2Add (po_slot 1) (po_of (pv_lst (pao_cons (po_of (pv_isX (i := 0) rfl rfl (List.mem_cons_self ..) (is.c c hc) hz.zc hf rfl (V.free 0) (pe_glob (v := .ref (He.ga K "BadLink")) rfl (ef.glo "BadLink" (by decide)) rfl) relV_ref (is.is c hc "BadLink" (by decide)))) (pao_cons (po_of (pv_isX (i := 0) rfl rfl (List.mem_cons_self ..) (is.c c hc) hz.zc hf rfl (V.free 0) (pe_glob (v := .ref (He.ga K "BadNumber")) rfl (ef.glo "BadNumber" (by decide)) rfl) relV_ref (is.is c hc "BadNumber" (by decide)))) (pao_cons (po_of (pv_isX (i := 0) rfl rfl (List.mem_cons_self ..) (is.c c hc) hz.zc hf rfl (V.free 0) (pe_glob (v := .ref (He.ga K "BadChoice")) rfl (ef.glo "BadChoice" (by decide)) rfl) relV_ref (is.is c hc "BadChoice" (by decide)))) pao_nil)))))))
    (psl_cons (psv_asgS (i := 1) hN rfl (by first | exact Or.inl rfl | exact Or.inr rfl) (pv_op2 opAddU op2Add (po_slot 1) (po_of (pv_lst (pao_cons (po_of (pv_isX (i := 0) rfl rfl (List.mem_cons_self ..) (is.c c hc) hz.zc hf rfl (V.free 0) (pe_glob (v := .ref (He.ga K "BadTime")) rfl (ef.glo "BadTime" (by decide)) rfl) relV_ref (is.is c hc "BadTime" (by decide)))) (pao_cons (po_of (pv_isX (i := 0) rfl rfl (List.mem_cons_self ..) (is.c c hc) hz.zc hf rfl (V.free 0) (pe_glob (v := .ref (He.ga K "BadEdition")) rfl (ef.glo "BadEdition" (by decide)) rfl) relV_ref (is.is c hc "BadEdition" (by decide)))) (pao_cons (po_of (pv_isX (i := 0) rfl rfl (List.mem_cons_self ..) (is.c c hc) hz.zc hf rfl (V.free 0) (pe_glob (v := .ref (He.ga K "BadSearch")) rfl (ef.glo "BadSearch" (by decide)) rfl) relV_ref (is.is c hc "BadSearch" (by decide)))) pao_nil)))))))
    (psl_cons (psv_asgS (i := 1) hN rfl (by first | exact Or.inl rfl | exact Or.inr rfl) (pv_op2 opAddU op2Add (po_slot 1) (po_of (pv_lst (pao_cons (po_of (pv_isX (i := 0) rfl rfl (List.mem_cons_self ..) (is.c c hc) hz.zc hf rfl (V.free 0) (pe_glob (v := .ref (He.ga K "Nothing")) rfl (ef.glo "Nothing" (by decide)) rfl) relV_ref (is.is c hc "Nothing" (by decide)))) pao_nil)))))
    (psl_cons (psv_asgS (i := 2) hN rfl (by first | exact Or.inl rfl | exact Or.inr rfl) (pv_lst (pao_cons (po_of pv_str) (pao_cons (po_of pv_str) (pao_cons (po_of pv_str) (pao_cons (po_of pv_str) (pao_cons (po_of pv_str) (pao_cons (po_of pv_str) (pao_cons (po_of pv_str) pao_nil)))))))))
    (psl_cons (psv_asgS (i := 2) hN rfl (by first | exact Or.inl rfl | exact Or.inr rfl) (pv_op2 opAddU op2Add (po_slot 2) (po_of (pv_lst (pao_cons (po_of pv_str) (pao_cons (po_of pv_str) (pao_cons (po_of pv_str) (pao_cons (po_of pv_str) (pao_cons (po_of pv_str) (pao_cons (po_of pv_str) pao_nil))))))))))
    (psl_cons (psv_asgS (i := 2) hN rfl (by first | exact Or.inl rfl | exact Or.inr rfl) (pv_op2 opAddU op2Add (po_slot 2) (po_of (pv_lst (pao_cons (po_of pv_str) (pao_cons (po_of pv_str) (pao_cons (po_of pv_str) pao_nil)))))))
    (psl_cons (psv_if (pb_bool (pbw_or (pb_cmp (op_neD hrU) op2Ne (po_of (pv_callB (cr_sumH hp) cwSum rfl (V.free 32) boot_sum (pao_cons (po_of (pv_flags (i := 1) (j := 3) hp hN rfl rfl (by first | exact Or.inl rfl | exact Or.inr (Or.inl rfl)) (blkOk_by (by show blkC N__law_term (defScope (top 31)) _ _ = true; decide +kernel)) (V.free 31) (fun _ _ _ _ _ => rfl) (fun _ _ _ _ _ => by first | exact Or.inl rfl | exact Or.inr rfl) (fun _ _ _ _ _ => by first | exact Or.inl rfl | exact Or.inr (Or.inl rfl)) (fun _ _ _ _ _ => rfl))) pao_nil))) (po_of pv_int)) (pbw_or1 (pb_not (pb_val (pv_isX (i := 0) rfl rfl (List.mem_cons_self ..) (is.c c hc) hz.zc hf rfl (V.free 0) (pe_bltn (v := .ty "ValueError") rfl (V.free 33) PyProof.Rows.Boot.«ValueError» rfl (by decide) (by decide)) relV_ty (is.ve c hc)))))))
   (psl_one (psv_ret (pv_tup (pao_cons (po_of pv_str) (pao_cons (po_of pv_str) pao_nil)))))
   psl_nil)
    (psl_one (psv_ret (pv_tup (pao_cons (po_of pv_str) (pao_cons (po_of (pv_ix (ixU hu1) op2Ix (po_slot 2) (po_of (pv_bm PySem.F.plainAttrs_list PySem.F.slot_list_index PySem.F.type_list_index (mt_indexD hu) mwIndex (po_slot 1) (pao_cons (po_of pv_bl) pao_nil))))) pao_nil)))))))))))))))
/-! ### _law_told -/
abbrev N__law_told : List PySem.Str := ["_law_deed", "_law_e"]
theorem sc__law_told : FnScope N__law_told ["_law_deed"] (defScope (top 32)) := ⟨rfl, rfl, rfl, by decide +kernel, rfl, by decide +kernel, by decide +kernel⟩
theorem ok__law_told {P : Program} {w : World} {K : PySem.W.Frag} {mg : Str → Option Value} {base : Heap} {Tl : List (Addr × Str)} (V : Ev fa fn K mg) (ef : ExF K mg) (tf : TermF P w K mg base "_law_term" "_law_e" Tl F__law_term 1) : ToldF P w K mg base "_law_told" Tl F__law_term 1 := by
  obtain ⟨fd, F⟩ := V.c.def_ 14 (d := d14) rfl
  refine ⟨V.glo 35, ef, ⟨_, _, tf⟩, by decide, "_law_deed", _, _, _, fd, N__law_told, F, F.bindsN (fun _ _ _ _ _ _ us hl => match us, hl with | [_], _ => rfl), sc__law_told, rfl, .inl rfl, by decide, by decide, fun X k cdg q hk h1 h2 h3 h4 h5 => ?_⟩
  subst h1 h2 h3 h4 h5
  exact told_gives (arg := "_law_e") sc__law_told.nd rfl rfl (fun _ => rfl) fun s H hr =>
   (.cons ⟨rfl, by decide, .inl (ef.glo "Short" (by decide))⟩ (su_F ef tf (hr.mono hk) (by decide) rfl rfl (.inl rfl) (by decide) (by decide) (by decide) rfl) (.cons ⟨rfl, by decide, .inl (ef.glo "NoEntry" (by decide))⟩ (su_F ef tf (hr.mono hk) (by decide) rfl rfl (.inl rfl) (by decide) (by decide) (by decide) rfl) (.cons ⟨rfl, by decide, .inl (ef.glo "Clash" (by decide))⟩ (su_F ef tf (hr.mono hk) (by decide) rfl rfl (.inl rfl) (by decide) (by decide) (by decide) rfl) (.cons ⟨rfl, by decide, .inl (ef.glo "Unled" (by decide))⟩ (su_F ef tf (hr.mono hk) (by decide) rfl rfl (.inl rfl) (by decide) (by decide) (by decide) rfl) (.cons ⟨rfl, by decide, .inl (ef.glo "BadText" (by decide))⟩ (su_F ef tf (hr.mono hk) (by decide) rfl rfl (.inl rfl) (by decide) (by decide) (by decide) rfl) (.cons ⟨rfl, by decide, .inl (ef.glo "KeepError" (by decide))⟩ (su_K tf (hr.mono hk) rfl rfl (.inl rfl) (by decide) (by decide) (by decide)) .nil))))))
/-! ### _law_letters_in -/
abbrev N__law_letters_in : List PySem.Str := ["_law_dice", "_law_found", "_law_one"]
def b__law_letters_in_0 : MS := mDrop (mInsert 1 (mCons (mTmp (mCallF F__law_roll (mCons (mSlot 0) (mCons (mTmp (mSet (mOp2 rvAdd (mTmp (mCall rvLenS (mCons (mSlot 1) (mNil)))) (mTmp (pureM (.fr (.int 1))))))) (mNil))))) (mCons (mTmp (mVar 2)) (mNil))))
def m__law_letters_in : MS := mSeq (mAsg 1 (mWrap .lst (mNil)))
    (mSeq (mFor (mItems (mOp2 rvAdd (mTmp (mWrap .lst (mCons (mTmp (pureM (.fr (.str "a")))) (mCons (mTmp (pureM (.fr (.str "b")))) (mCons (mTmp (pureM (.fr (.str "c")))) (mCons (mTmp (pureM (.fr (.str "d")))) (mNil))))))) (mTmp (mOp2 rvIx (mTmp (mWrap .lst (mCons (mTmp (mSet (mWrap .lst (mCons (mTmp (pureM (.fr (.str "ab")))) (mCons (mTmp (pureM (.fr (.str "cc")))) (mNil)))))) (mCons (mTmp (mSet (mWrap .lst (mCons (mTmp (pureM (.fr (.str "da")))) (mCons (mTmp (pureM (.fr (.str "bb")))) (mCons (mTmp (pureM (.fr (.str "ca")))) (mNil))))))) (mCons (mTmp (mSet (mWrap .lst (mNil)))) (mNil)))))) (mTmp (mCallF F__law_roll (mCons (mSlot 0) (mCons (mTmp (pureM (.fr (.int 3)))) (mNil))))))))) (bName 2) (b__law_letters_in_0))
    (mRet (mVar 1)))
def F__law_letters_in : Fn := mkF 3 1 m__law_letters_in
theorem sc__law_letters_in : FnScope N__law_letters_in ["_law_dice"] (defScope (top 33)) := ⟨rfl, rfl, rfl, by decide +kernel, rfl, by decide +kernel, by decide +kernel⟩
theorem ok__law_letters_in {P : Program} {w : World} {K : PySem.W.Frag} {mg : Str → Option Value} {base : Heap} {T : Tx} (V : Ev fa fn K mg) (h__law_roll : FnV P w K mg base T "_law_roll" ["_law_dice", "_law_many"] 2 F__law_roll) : FnV P w K mg base T "_law_letters_in" ["_law_dice"] 3 F__law_letters_in := by
  refine FnV.of (N := N__law_letters_in) (V.glo 36) (V.c.def_ 15 (d := d15) rfl) sc__law_letters_in (fun _ _ _ _ _ _ us hl => match us, hl with | [_], _ => rfl) fun cdv A outer s H E hr => ?_
  have hN := sc__law_letters_in.nd
  have hu := units1 hr
  have hu1 := units2 hr
  exact (psl_cons (psv_asg (i := 1) hN rfl (by first | exact Or.inl rfl | exact Or.inr rfl) (pv_lst pao_nil))
    (psl_cons (psv_for passC rfl (piv_any (pv_op2 opAddU op2Add (po_of (pv_lst (pao_cons (po_of pv_str) (pao_cons (po_of pv_str) (pao_cons (po_of pv_str) (pao_cons (po_of pv_str) pao_nil)))))) (po_of (pv_ix (ixU hu1) op2Ix (po_of (pv_lst (pao_cons (po_of (pv_set (pv_lst (pao_cons (po_of pv_str) (pao_cons (po_of pv_str) pao_nil))))) (pao_cons (po_of (pv_set (pv_lst (pao_cons (po_of pv_str) (pao_cons (po_of pv_str) (pao_cons (po_of pv_str) pao_nil)))))) (pao_cons (po_of (pv_set (pv_lst pao_nil))) pao_nil))))) (po_of (pv_fn h__law_roll takesC hr (pao_cons (po_slot 0) (pao_cons (po_of pv_int) pao_nil)))))))) (pgv_name (i := 2) hN rfl (by first | exact Or.inl rfl | exact Or.inr rfl))
   (psl_one (psv_expr (pv_insert 1 (pao_cons (po_of (pv_fn h__law_roll takesC hr (pao_cons (po_slot 0) (pao_cons (po_of (pv_set (pv_op2 opAddU op2Add (po_of (pv_callB call_len cwLen rfl (V.free 2) PySem.boot_len (pao_cons (po_slot 1) pao_nil))) (po_of pv_int)))) pao_nil)))) (pao_cons (po_of (pv_var 2)) pao_nil))))))
    (psl_one (psv_ret (pv_var 1)))))
/-! ### _law_read -/
abbrev N__law_read : List PySem.Str := ["_law_signs", "_law_text", "_law_found", "_law_at", "_law_two"]
def b__law_read_0 : MS := mSeq (mAsgS 4 (mSl rvSl (mSlot 1) (mPart (mVar 3)) (mPart (mOp2 rvAdd (mSlot 3) (mTmp (pureM (.fr (.int 2))))))))
    (mIfS (mTest (mOp2 rvIn (mTmp (mOp2 rvIx (mSlot 1) (mSlot 3))) (mTmp (pureM (.fr (.str "-'")))))) (mAsgS 3 (mOp2 rvAdd (mSlot 3) (mTmp (pureM (.fr (.int 1)))))) (mIfS (mAnd (mTest (mOp2 rvEq (mTmp (mCall rvLenS (mCons (mSlot 4) (mNil)))) (mTmp (pureM (.fr (.int 2)))))) (mTest (mOp2 rvIn (mSlot 4) (mSlot 0)))) (mSeq (mDrop (mAppend 2 (mVar 4)))
    (mAsgS 3 (mOp2 rvAdd (mSlot 3) (mTmp (pureM (.fr (.int 2))))))) (mIfS (mTest (mOp2 rvIn (mTmp (mOp2 rvIx (mSlot 1) (mSlot 3))) (mSlot 0))) (mSeq (mDrop (mAppend 2 (mOp2 rvIx (mSlot 1) (mSlot 3))))
    (mAsgS 3 (mOp2 rvAdd (mSlot 3) (mTmp (pureM (.fr (.int 1))))))) (mRet (pureM (.fr .non))))))
def m__law_read : MS := mSeq (mPar [2, 3] (mCons (mTmp (mWrap .lst (mNil))) (mCons (mTmp (pureM (.fr (.int 0)))) (mNil))))
    (mSeq (mWhile (mTest (mOp2 rvLtU (mSlot 3) (mTmp (mCall rvLenS (mCons (mSlot 1) (mNil)))))) (b__law_read_0) 100000)
    (mRet (mSet (mIf (mTest (mOp2 rvNe (mSlot 2) (mTmp (mWrap .lst (mNil))))) (mVar 2) (pureM (.fr .non))))))
def F__law_read : Fn := mkF 5 2 m__law_read
theorem sc__law_read : FnScope N__law_read ["_law_signs", "_law_text"] (defScope (top 34)) := ⟨rfl, rfl, rfl, by decide +kernel, rfl, by decide +kernel, by decide +kernel⟩
theorem ok__law_read {P : Program} {w : World} {K : PySem.W.Frag} {mg : Str → Option Value} {base : Heap} {T : Tx} (V : Ev fa fn K mg)  : FnV P w K mg base T "_law_read" ["_law_signs", "_law_text"] 1 F__law_read := by
  refine FnV.of (N := N__law_read) (V.glo 37) (V.c.def_ 16 (d := d16) rfl) sc__law_read (fun _ _ _ _ _ _ us hl => match us, hl with | [_, _], _ => rfl) fun cdv A outer s H E hr => ?_
  have hN := sc__law_read.nd
  have hu := units1 hr
  have hu1 := units2 hr
  exact (psl_cons (psv_par (i := 2) (j := 3) rfl hN (pao_cons (po_of (pv_lst pao_nil)) (pao_cons (po_of pv_int) pao_nil)))
    (psl_cons (psv_while 100000 passC (pb_cmp (opLtU hr.units) op2LtU (po_slot 3) (po_of (pv_callB call_len cwLen rfl (V.free 2) PySem.boot_len (pao_cons (po_slot 1) pao_nil))))
   (psl_cons (psv_asgS (i := 4) hN rfl (by first | exact Or.inl rfl | exact Or.inr rfl) (pv_sl slU slWU (po_slot 1) (psl_some (pv_var 3)) (psl_some (pv_op2 opAddU op2Add (po_slot 3) (po_of pv_int)))))
    (psl_one (psv_if (pb_cmp (opIn hu) op2In (po_of (pv_ix (ixU hu1) op2Ix (po_slot 1) (po_slot 3))) (po_of pv_str))
   (psl_one (psv_asgS (i := 3) hN rfl (by first | exact Or.inl rfl | exact Or.inr rfl) (pv_op2 opAddU op2Add (po_slot 3) (po_of pv_int))))
   (psl_one (psv_if (pb_bool (pbw_and (pb_cmp (op_eqD hr.units) op2Eq (po_of (pv_callB call_len cwLen rfl (V.free 2) PySem.boot_len (pao_cons (po_slot 4) pao_nil))) (po_of pv_int)) (pbw_and1 (pb_cmp (opIn hu) op2In (po_slot 4) (po_slot 0)))))
   (psl_cons (psv_expr (pv_append 2 (pv_var 4)))
    (psl_one (psv_asgS (i := 3) hN rfl (by first | exact Or.inl rfl | exact Or.inr rfl) (pv_op2 opAddU op2Add (po_slot 3) (po_of pv_int)))))
   (psl_one (psv_if (pb_cmp (opIn hu) op2In (po_of (pv_ix (ixU hu1) op2Ix (po_slot 1) (po_slot 3))) (po_slot 0))
   (psl_cons (psv_expr (pv_append 2 (pv_ix (ixU hu1) op2Ix (po_slot 1) (po_slot 3))))
    (psl_one (psv_asgS (i := 3) hN rfl (by first | exact Or.inl rfl | exact Or.inr rfl) (pv_op2 opAddU op2Add (po_slot 3) (po_of pv_int)))))
   (psl_one (psv_ret pv_non))))))))))
    (psl_one (psv_ret (pv_set (pv_if (pb_cmp (op_neD hr.units) op2Ne (po_slot 2) (po_of (pv_lst pao_nil))) (pv_var 2) pv_non))))))
/-! ### _law_pool -/
abbrev N__law_pool : List PySem.Str := []
def m__law_pool : MS := mRet (mSet (mWrap .lst (mCons (mTmp (pureM (.fr (.str "a")))) (mCons (mTmp (pureM (.fr (.str "ab")))) (mCons (mTmp (pureM (.fr (.str "ba")))) (mCons (mTmp (pureM (.fr (.str "abc")))) (mCons (mTmp (pureM (.fr (.str "cab")))) (mCons (mTmp (pureM (.fr (.str "bad")))) (mCons (mTmp (pureM (.fr (.str "dab")))) (mCons (mTmp (pureM (.fr (.str "abba")))) (mCons (mTmp (pureM (.fr (.str "da-b")))) (mCons (mTmp (pureM (.fr (.str "d'ab")))) (mCons (mTmp (pureM (.fr (.str "cc")))) (mCons (mTmp (pureM (.fr (.str "acd")))) (mNil)))))))))))))))
def F__law_pool : Fn := mkF 0 0 m__law_pool
theorem sc__law_pool : FnScope N__law_pool [] (defScope (top 35)) := ⟨rfl, rfl, rfl, by decide +kernel, rfl, by decide +kernel, by decide +kernel⟩
theorem ok__law_pool {P : Program} {w : World} {K : PySem.W.Frag} {mg : Str → Option Value} {base : Heap} {T : Tx} (V : Ev fa fn K mg)  : FnV P w K mg base T "_law_pool" [] 1 F__law_pool := by
  refine FnV.of (N := N__law_pool) (V.glo 38) (V.c.def_ 17 (d := d17) rfl) sc__law_pool (fun _ _ _ _ _ _ us hl => match us, hl with | [], _ => rfl) fun cdv A outer s H E hr => ?_
  have hN := sc__law_pool.nd
  have hu := units1 hr
  have hu1 := units2 hr
  exact (psl_one (psv_ret (pv_set (pv_lst (pao_cons (po_of pv_str) (pao_cons (po_of pv_str) (pao_cons (po_of pv_str) (pao_cons (po_of pv_str) (pao_cons (po_of pv_str) (pao_cons (po_of pv_str) (pao_cons (po_of pv_str) (pao_cons (po_of pv_str) (pao_cons (po_of pv_str) (pao_cons (po_of pv_str) (pao_cons (po_of pv_str) (pao_cons (po_of pv_str) pao_nil))))))))))))))))
/-! ### _law_any -/
abbrev N__law_any : List PySem.Str := ["_law_dice"]
def m__law_any : MS := mRet (mOp2 rvIx (mTmp (mCall0 F__law_pool)) (mTmp (mCallF F__law_roll (mCons (mSlot 0) (mCons (mTmp (pureM (.fr (.int 12)))) (mNil))))))
def F__law_any : Fn := mkF 1 1 m__law_any
theorem sc__law_any : FnScope N__law_any ["_law_dice"] (defScope (top 36)) := ⟨rfl, rfl, rfl, by decide +kernel, rfl, by decide +kernel, by decide +kernel⟩
theorem ok__law_any {P : Program} {w : World} {K : PySem.W.Frag} {mg : Str → Option Value} {base : Heap} {T : Tx} (V : Ev fa fn K mg) (h__law_pool : FnV P w K mg base T "_law_pool" [] 1 F__law_pool) (h__law_roll : FnV P w K mg base T "_law_roll" ["_law_dice", "_law_many"] 2 F__law_roll) : FnV P w K mg base T "_law_any" ["_law_dice"] 3 F__law_any := by
  refine FnV.of (N := N__law_any) (V.glo 39) (V.c.def_ 18 (d := d18) rfl) sc__law_any (fun _ _ _ _ _ _ us hl => match us, hl with | [_], _ => rfl) fun cdv A outer s H E hr => ?_
  have hN := sc__law_any.nd
  have hu := units1 hr
  have hu1 := units2 hr
  exact (psl_one (psv_ret (pv_ix (ixU hu1) op2Ix (po_of (pv_fn0 h__law_pool hr)) (po_of (pv_fn h__law_roll takesC hr (pao_cons (po_slot 0) (pao_cons (po_of pv_int) pao_nil)))))))
/-! ### _law_drawn_word -/
abbrev N__law_drawn_word : List PySem.Str := ["_law_dice", "_law_turn"]
def c__law_drawn_word_0 : M W := mComp [1] (mRange (mCons (mTmp (mOp2 rvAdd (mTmp (pureM (.fr (.int 1)))) (mTmp (mCallF F__law_roll (mCons (mSlot 0) (mCons (mTmp (pureM (.fr (.int 8)))) (mNil))))))) (mNil))) (bName 1) (pureM true) (mOp2 rvIx (mTmp (pureM (.fr (.str "abcd-'abcd")))) (mTmp (mCallF F__law_roll (mCons (mSlot 0) (mCons (mTmp (pureM (.fr (.int 10)))) (mNil))))))
def m__law_drawn_word : MS := mRet (mSet (mBM W.isStr rvJoin (mTmp (pureM (.fr (.str "")))) (mCons (mTmp (c__law_drawn_word_0)) (mNil))))
def F__law_drawn_word : Fn := mkF 2 1 m__law_drawn_word
theorem sc__law_drawn_word : FnScope N__law_drawn_word ["_law_dice"] (defScope (top 37)) := ⟨rfl, rfl, rfl, by decide +kernel, rfl, by decide +kernel, by decide +kernel⟩
theorem ok__law_drawn_word {P : Program} {w : World} {K : PySem.W.Frag} {mg : Str → Option Value} {base : Heap} {T : Tx} (V : Ev fa fn K mg) (h__law_roll : FnV P w K mg base T "_law_roll" ["_law_dice", "_law_many"] 2 F__law_roll) : FnV P w K mg base T "_law_drawn_word" ["_law_dice"] 3 F__law_drawn_word := by
  refine FnV.of (N := N__law_drawn_word) (V.glo 40) (V.c.def_ 19 (d := d19) rfl) sc__law_drawn_word (fun _ _ _ _ _ _ us hl => match us, hl with | [_], _ => rfl) fun cdv A outer s H E hr => ?_
  have hN := sc__law_drawn_word.nd
  have hu := units1 hr
  have hu1 := units2 hr
  exact (psl_one (psv_ret (pv_set (pv_bm PySem.F.plainAttrs_str PySem.F.slot_str_join PySem.F.type_str_join mt_join mwJoin (po_of pv_str) (pao_cons (po_of (pv_comp (own := [("_law_turn", 1)]) (g := (gName 1)) rfl hN (piv_range rfl (V.free 29) (pao_cons (po_of (pv_op2 opAddU op2Add (po_of pv_int) (po_of (pv_fn h__law_roll takesC hr (pao_cons (po_slot 0) (pao_cons (po_of pv_int) pao_nil)))))) pao_nil)) (blkOk_by (by show blkC N__law_drawn_word (defScope (top 37)) _ _ = true; decide +kernel)) (fun _ _ _ _ _ => (pgv_name (i := 1) hN rfl (by first | exact Or.inl rfl | exact Or.inr rfl))) (fun _ _ _ _ _ => pbs_nil) (fun _ _ _ _ _ => (pv_ix (ixU hu1) op2Ix (po_of pv_str) (po_of (pv_fn h__law_roll takesX hr (pao_cons (po_slot 0) (pao_cons (po_of pv_int) pao_nil)))))))) pao_nil)))))
/-! ### law -/
abbrev N_law : List PySem.Str := ["_law_script", "_law_dice", "_law_signs", "_law_own", "_law_cases", "_law_text", "_law_due"]
def t_law_0 : MS := mIfS (mAnd (mTest (mOp2 rvNotU (mSlot 6) (mTmp (pureM (.fr .non))))) (mTest (mOp2 rvNe (mTmp (mBM W.isStr rvJoin (mTmp (pureM (.fr (.str "")))) (mCons (mSlot 6) (mNil)))) (mTmp (mRepl "'" "" (mRepl "-" "" (mVar 5))))))) (mRet (pureM (.fr (.bl false)))) (mNext)
def t_law_1 : MS := mSeq (mIfS (mTest (mOp2 rvNe (mTmp (mTold (mMethF "Alphabet" "read" F_Alphabet_d_read (mSlot 3) (mCons (mTmp (mVar 5)) (mNil))))) (mTmp (mIf (mTest (mOp2 rvNotU (mSlot 6) (mTmp (pureM (.fr .non))))) (mVar 6) (mCall rvTup (mCons (mTmp (pureM (.fr (.str "refused")))) (mCons (mTmp (pureM (.fr (.str "BadWord")))) (mNil)))))))) (mRet (pureM (.fr (.bl false)))) (mNext))
    (t_law_0)
def b_law_2 : MS := mSeq (mAsgS 6 (mCallF F__law_read (mCons (mTmp (mVar 2)) (mCons (mTmp (mVar 5)) (mNil)))))
    (t_law_1)
def t_law_3 : MS := mFor (mItems (mVar 4)) (bName 5) (b_law_2)
def t_law_4 : MS := mSeq (mAsgS 4 (mOp2 rvAdd (mSlot 4) (mTmp (mWrap .lst (mCons (mTmp (pureM (.fr (.str "ccab")))) (mCons (mTmp (pureM (.fr (.str "dabb")))) (mNil)))))))
    (t_law_3)
def t_law_5 : MS := mSeq (mAsgS 4 (mWrap .lst (mCons (mTmp (mCallF F__law_drawn_word (mCons (mSlot 1) (mNil)))) (mCons (mTmp (mCallF F__law_any (mCons (mSlot 1) (mNil)))) (mCons (mTmp (mSet (mOp2 rvAdd (mTmp (mCallF F__law_drawn_word (mCons (mSlot 1) (mNil)))) (mTmp (pureM (.fr (.str "x"))))))) (mCons (mTmp (pureM (.fr (.str "--")))) (mCons (mTmp (pureM (.fr (.str "'")))) (mNil))))))))
    (t_law_4)
def t_law_6 : MS := mSeq (mIfS (mAnd (mTest (mOp2 rvGt (mTmp (mCall rvLenS (mCons (mSlot 2) (mNil)))) (mTmp (pureM (.fr (.int 1)))))) (mTest (mEqO "Alphabet" F_Alphabet_d___eq__ false (mSlot 3) (mTmp (mMake "Alphabet" F_Alphabet_d___init__ (mCons (mTmp (mSet (mOp1 rvRev (mSlot 2)))) (mNil))))))) (mRet (pureM (.fr (.bl false)))) (mNext))
    (t_law_5)
def t_law_7 : MS := mSeq (mIfS (mOr (mTest (mOp2 rvNe (mTmp (mMethF "Alphabet" "letters" F_Alphabet_d_letters (mSlot 3) mNil)) (mTmp (mCall rvTuple (mCons (mSlot 2) (mNil)))))) (mTest (mEqO "Alphabet" F_Alphabet_d___eq__ true (mSlot 3) (mTmp (mMake "Alphabet" F_Alphabet_d___init__ (mCons (mTmp (mSet (mCall rvTuple (mCons (mSlot 2) (mNil))))) (mNil))))))) (mRet (pureM (.fr (.bl false)))) (mNext))
    (t_law_6)
def t_law_8 : MS := mSeq (mAsgS 3 (mMake "Alphabet" F_Alphabet_d___init__ (mCons (mTmp (mVar 2)) (mNil))))
    (t_law_7)
def b_law_9 : MS := mSeq (mAsgS 2 (mCallF F__law_letters_in (mCons (mSlot 1) (mNil))))
    (t_law_8)
def t_law_10 : MS := mRet (pureM (.fr (.bl true)))
def m_law : MS := mSeq (mForOwn (mCallF F__law_rounds (mCons (mTmp (mVar 0)) (mCons (mTmp (pureM (.fr (.int 5)))) (mNil)))) 1 (b_law_9))
    (t_law_10)
def F_law : Fn := mkF 7 1 m_law
theorem sc_law : FnScope N_law ["_law_script"] (defScope (top 38)) := ⟨rfl, rfl, rfl, by decide +kernel, rfl, by decide +kernel, by decide +kernel⟩
theorem ok_law {P : Program} {w : World} {K : PySem.W.Frag} {mg : Str → Option Value} {base : Heap} {T : Tx} {fd : FuncData} (V : Ev fa fn K mg) (F : FunD K "law" "law" (defArgs (top 38)) (defBody (top 38)) (defScope (top 38)) [] [] (He.ga K "law") fd) (x2 : (ext2s K).all id = true) (ld : LamD K mg base T.l ("law", none) (lamQ "law")) (h_Alphabet_d___eq__ : MtV P w K mg base T "Alphabet" "__eq__" ["self", "other"] 1 F_Alphabet_d___eq__) (h_Alphabet_d___init__ : MkV P w K mg base T "Alphabet" ["self", "letters"] 2 F_Alphabet_d___init__) (h_Alphabet_d_letters : MtV P w K mg base T "Alphabet" "letters" ["self"] 1 F_Alphabet_d_letters) (h_Alphabet_d_read : MtV P w K mg base T "Alphabet" "read" ["self", "word"] 4 F_Alphabet_d_read) (h__law_any : FnV P w K mg base T "_law_any" ["_law_dice"] 3 F__law_any) (h__law_drawn_word : FnV P w K mg base T "_law_drawn_word" ["_law_dice"] 3 F__law_drawn_word) (h__law_letters_in : FnV P w K mg base T "_law_letters_in" ["_law_dice"] 3 F__law_letters_in) (h__law_read : FnV P w K mg base T "_law_read" ["_law_signs", "_law_text"] 1 F__law_read) (h__law_rounds : FnV P w K mg base T "_law_rounds" ["_law_script", "_law_most"] 2 F__law_rounds) (h__law_told : ToldF P w K mg base "_law_told" T.l F__law_term 1) : FnOk P w K mg base (L2N.CX P w) 7 (He.ga K "law") fd ["_law_script"] (spV ⟨K, mg, T⟩ F_law) := by
  refine fnVc (at_ := ("law", none)) F sc_law fun cdv A outer s H E hcode hr => ?_
  have hN := sc_law.nd
  have hu := units1 hr
  have hu1 := units2 hr
  exact (psl_cons (psv_forO (i0 := 1) passC rfl (pv_fn h__law_rounds takesC hr (pao_cons (po_of (pv_var 0)) (pao_cons (po_of pv_int) pao_nil))) hN rfl (by first | exact Or.inl rfl | exact Or.inr rfl)
   (psl_cons (psv_asgS (i := 2) hN rfl (by first | exact Or.inl rfl | exact Or.inr rfl) (pv_fn h__law_letters_in takesC hr (pao_cons (po_slot 1) pao_nil)))
    (psl_cons (psv_asgS (i := 3) hN rfl (by first | exact Or.inl rfl | exact Or.inr rfl) (pv_make h_Alphabet_d___init__ takesC hr (pao_cons (po_of (pv_var 2)) pao_nil)))
    (psl_cons (psv_if (pb_bool (pbw_or (pb_cmp (op_neD hr.units) op2Ne (po_of (pv_meth0 h_Alphabet_d_letters takesC hr (po_slot 3))) (po_of (pv_callTy call_tuple_of cwTuple rfl (V.free 10) boot_tuple (pao_cons (po_slot 2) pao_nil)))) (pbw_or1 (pb_neown h_Alphabet_d___eq__ (eqcB_ok (allAt x2 (i := 1) rfl)) takesC hr (po_slot 3) (po_of (pv_make h_Alphabet_d___init__ takesC hr (pao_cons (po_of (pv_set (pv_callTy call_tuple_of cwTuple rfl (V.free 10) boot_tuple (pao_cons (po_slot 2) pao_nil)))) pao_nil)))))))
   (psl_one (psv_ret pv_bl))
   psl_nil)
    (psl_cons (psv_if (pb_bool (pbw_and (pb_cmp op_gt op2Gt (po_of (pv_callB call_len cwLen rfl (V.free 2) PySem.boot_len (pao_cons (po_slot 2) pao_nil))) (po_of pv_int)) (pbw_and1 (pb_eqown h_Alphabet_d___eq__ (eqcB_ok (allAt x2 (i := 1) rfl)) takesC hr (po_slot 3) (po_of (pv_make h_Alphabet_d___init__ takesC hr (pao_cons (po_of (pv_set (pv_revL (po_slot 2)))) pao_nil)))))))
   (psl_one (psv_ret pv_bl))
   psl_nil)
    (psl_cons (psv_asgS (i := 4) hN rfl (by first | exact Or.inl rfl | exact Or.inr rfl) (pv_lst (pao_cons (po_of (pv_fn h__law_drawn_word takesC hr (pao_cons (po_slot 1) pao_nil))) (pao_cons (po_of (pv_fn h__law_any takesC hr (pao_cons (po_slot 1) pao_nil))) (pao_cons (po_of (pv_set (pv_op2 opAddU op2Add (po_of (pv_fn h__law_drawn_word takesC hr (pao_cons (po_slot 1) pao_nil))) (po_of pv_str)))) (pao_cons (po_of pv_str) (pao_cons (po_of pv_str) pao_nil)))))))
    (psl_cons (psv_asgS (i := 4) hN rfl (by first | exact Or.inl rfl | exact Or.inr rfl) (pv_op2 opAddU op2Add (po_slot 4) (po_of (pv_lst (pao_cons (po_of pv_str) (pao_cons (po_of pv_str) pao_nil))))))
    (psl_one (psv_for passC rfl (piv_any (pv_var 4)) (pgv_name (i := 5) hN rfl (by first | exact Or.inl rfl | exact Or.inr rfl))
   (psl_cons (psv_asgS (i := 6) hN rfl (by first | exact Or.inl rfl | exact Or.inr rfl) (pv_fn h__law_read takesC hr (pao_cons (po_of (pv_var 2)) (pao_cons (po_of (pv_var 5)) pao_nil))))
    (psl_cons (psv_if (pb_cmp (op_neD hr.units) op2Ne (po_of (pv_told (k := 4) h__law_told ld hcode hr (fun A outer s H E f c' hr => by
  have hu := units1 hr
  have hu1 := units2 hr
  exact (pv_meth h_Alphabet_d_read takesL hr (po_slot 3) (pao_cons (po_of (pv_var 5)) pao_nil))) (LamX.lamS_by (by show LamX.lamSB (defScope (top 38)) _ = true; decide +kernel)))) (po_of (pv_if (pb_cmp opNotU op2NotU (po_slot 6) (po_of pv_non)) (pv_var 6) (pv_tup (pao_cons (po_of pv_str) (pao_cons (po_of pv_str) pao_nil))))))
   (psl_one (psv_ret pv_bl))
   psl_nil)
    (psl_one (psv_if (pb_bool (pbw_and (pb_cmp opNotU op2NotU (po_slot 6) (po_of pv_non)) (pbw_and1 (pb_cmpT (op_neD hr.units) op2Ne (po_of (pv_bm PySem.F.plainAttrs_str PySem.F.slot_str_join PySem.F.type_str_join mt_join mwJoin (po_of pv_str) (pao_cons (po_slot 6) pao_nil))) (pvt_repl (pvt_repl (pvt_of (pv_var 5))))))))
   (psl_one (psv_ret pv_bl))
   psl_nil)))))))))))))
    (psl_one (psv_ret pv_bl)))
theorem facts {P : Program} {w : World} {K : PySem.W.Frag} {h : Heap} {mg : Str → Option Value} {f : Addr} (hlaw : ∀ ns : List Int, ns.length ≤ 63 → ∃ ws, F_law [.fr (.scr ns)] = some (.ok (.fr (.bl true)), ws)) (X : K.In h) (G : h.Ns mainGlobals mg) (hfa : mg ("law" : Str) = some (.ref f)) (c : SaysV fa fn tfs ext h K) :
    ∃ fd : FuncData, (∀ (s : Shared) (v : Value), BindsTo s fd ⟨[v], []⟩ [("_law_script", v)]) ∧ (∀ (H : Hp) (a : Addr) (ns : List Int), ns.length ≤ 63 → (∀ p ∈ tfs.map (He.cT K), H p.2 = some (.tbl #[])) → SqL K H a (ns.map V.int) → spV ⟨K, mg, ⟨tabL K tfq, none, none⟩⟩ F_law [.ref a] H (fun v _ => v = .bl true) fun _ _ _ => False) ∧
      ∀ base : Heap, K.In base → base.Ns mainGlobals mg → (∀ p ∈ tfs.map (He.cT K), LamX.TabB base mg p.1 p.2) → FnOk P w K mg base (L2N.CX P w) 7 f fd ["_law_script"] (spV ⟨K, mg, ⟨tabL K tfq, none, none⟩⟩ F_law) := by
  have V : Ev fa fn K mg := ⟨c.d, h, X, G⟩
  have hx := c.more
  unfold ext at hx
  simp only [Bool.and_eq_true] at hx
  have ef := exTest_ok X G hx.1
  have is := isTest_ok hx.2.1
  have ra := raTest_ok hx.2.2.1
  have tt := hx.2.2.2.1
  have x2 := hx.2.2.2.2
  obtain ⟨fd, F⟩ := c.d.def_ 20 (d := d20) rfl
  have e := hfa.symm.trans (V.glo 41)
  cases e
  have b := FunD.bindsA (ps := ["_law_script"]) F fun _ _ _ _ _ _ us hl => match us, hl with | [_], _ => rfl
  have em : tfs.map (He.cT K) = tfq.map fun r => He.cT K r.1 := rfl
  refine ⟨fd, fun s v => b s [v] rfl, fun H a ns hl hT hS => sp_lawX (fun p hp => ?_) hS (hlaw ns hl), fun base _ _ TB => ?_⟩
  · obtain ⟨r, hr, rfl⟩ := List.mem_map.mp hp
    exact hT (He.cT K r.1) (by rw [em]; exact List.mem_map.mpr ⟨r, hr, rfl⟩)
  rw [em] at TB
  have h_ex_Short := ok_ex_Short (P := P) (w := w) (base := base) V ra ef
  have h_ex_NoEntry := ok_ex_NoEntry (P := P) (w := w) (base := base) V ra ef
  have h_ex_Clash := ok_ex_Clash (P := P) (w := w) (base := base) V ra ef
  have h_ex_Unled := ok_ex_Unled (P := P) (w := w) (base := base) V ra ef
  have h_ex_BadText := ok_ex_BadText (P := P) (w := w) (base := base) V ra ef
  have h_is_small := ok_is_small (P := P) (w := w) (base := base) (T := ⟨tabL K tfq, none, none⟩) V 
  have h_is_word := ok_is_word (P := P) (w := w) (base := base) (T := ⟨tabL K tfq, none, none⟩) V 
  have h_Alphabet_d___init__ := ok_Alphabet_d___init__ (P := P) (w := w) (base := base) (T := ⟨tabL K tfq, none, none⟩) V ra ef h_is_small
  have h_Alphabet_d___eq__ := ok_Alphabet_d___eq__ (P := P) (w := w) (base := base) (T := ⟨tabL K tfq, none, none⟩) V x2 
  have h_Alphabet_d_letters := ok_Alphabet_d_letters (P := P) (w := w) (base := base) (T := ⟨tabL K tfq, none, none⟩) V 
  have h_Alphabet_d_taken := ok_Alphabet_d_taken (P := P) (w := w) (base := base) (T := ⟨tabL K tfq, none, none⟩) V 
  have h_Alphabet_d_has := ok_Alphabet_d_has (P := P) (w := w) (base := base) (T := ⟨tabL K tfq, none, none⟩) V h_Alphabet_d_taken h_is_word
  have h_Alphabet_d_need := ok_Alphabet_d_need (P := P) (w := w) (base := base) (T := ⟨tabL K tfq, none, none⟩) V ra ef h_Alphabet_d_has
  have h_Alphabet_d_read := ok_Alphabet_d_read (P := P) (w := w) (base := base) (T := ⟨tabL K tfq, none, none⟩) V h_Alphabet_d_need h_Alphabet_d_taken
  have h__law_cell := ok__law_cell (P := P) (w := w) (base := base) (T := ⟨tabL K tfq, none, none⟩) V 
  have h__law_drawn := ok__law_drawn (P := P) (w := w) (base := base) (T := ⟨tabL K tfq, none, none⟩) V 
  have h__law_roll := ok__law_roll (P := P) (w := w) (base := base) (T := ⟨tabL K tfq, none, none⟩) V h__law_drawn
  have h__law_rounds := ok__law_rounds (P := P) (w := w) (base := base) (T := ⟨tabL K tfq, none, none⟩) V h__law_cell
  have h__law_term := ok__law_term (P := P) (w := w) (base := base) (Tl := tabL K tfq) V is ef
  have h__law_told := ok__law_told (P := P) (w := w) (base := base) (Tl := tabL K tfq) V ef h__law_term
  have h__law_letters_in := ok__law_letters_in (P := P) (w := w) (base := base) (T := ⟨tabL K tfq, none, none⟩) V h__law_roll
  have h__law_read := ok__law_read (P := P) (w := w) (base := base) (T := ⟨tabL K tfq, none, none⟩) V 
  have h__law_pool := ok__law_pool (P := P) (w := w) (base := base) (T := ⟨tabL K tfq, none, none⟩) V 
  have h__law_any := ok__law_any (P := P) (w := w) (base := base) (T := ⟨tabL K tfq, none, none⟩) V h__law_pool h__law_roll
  have h__law_drawn_word := ok__law_drawn_word (P := P) (w := w) (base := base) (T := ⟨tabL K tfq, none, none⟩) V h__law_roll
  exact ok_law V F x2 (lamD_of tt TB (p := ("law", none)) (q := lamQ "law") (by simp [tfq])) h_Alphabet_d___eq__ h_Alphabet_d___init__ h_Alphabet_d_letters h_Alphabet_d_read h__law_any h__law_drawn_word h__law_letters_in h__law_read h__law_rounds h__law_told
abbrev R : PySem.W.OpenRow := PySem.W.OpenLaw.row PySem.Challenge.rw_wordkeepers_k01_whole_letters_read
abbrev hk : PySem.W.Hook := hookV fa fn tfs ext
def ob (s : PySem.W.SharedT) : He.AlD × Bool := obsV fa fn tfs ext (HandSHeadRun.getT s) (frV (HandSHeadRun.getT s))
theorem ob_eq (s : PySem.W.SharedT) : ob s = hk.obs s.abs := obsV_eq (HandSHeadRun.getT_eq s)
theorem run (w : World) : HandSHeadRun.RunEq R (PySem.W.view R.prog [38]) hk ob 8000 names w := by
  intro os
  kernel_rfl

/-! ### texts as lists of signs -/
abbrev sx (l : List Nat) : Str := ⟨l.toArray⟩
theorem sx_len {l : List Nat} : (sx l).length = l.length := by show l.toArray.size = l.length; simp
theorem sx_of (x : Str) : x = sx x.cps.toList := by cases x; simp
theorem cut_sx {l : List Nat} {a b : Nat} : cutS (sx l) (some (a : Int)) (some (b : Int)) = sx ((l.drop (min a l.length)).take (min b l.length - min a l.length)) := by
  unfold cutS
  rw [HT.sIx_nat, HT.sIx_nat, sx_len]
theorem cut2 {l r : List Nat} {a c d : Nat} (h : l.drop a = c :: d :: r) : cutS (sx l) (some (a : Int)) (some ((a : Int) + 2)) = sx [c, d] := by
  have e : ((a : Int) + 2) = ((a + 2 : Nat) : Int) := by omega
  have hl : l.length = a + 2 + r.length := by
    have := congrArg List.length h
    simp at this
    omega
  rw [e, cut_sx, Nat.min_eq_left (by omega), Nat.min_eq_left (by omega), h, show a + 2 - a = 2 by omega]
  rfl
theorem cut2e {l : List Nat} {a c : Nat} (h : l.drop a = [c]) : cutS (sx l) (some (a : Int)) (some ((a : Int) + 2)) = sx [c] := by
  have e : ((a : Int) + 2) = ((a + 2 : Nat) : Int) := by omega
  have hl : l.length = a + 1 := by
    have := congrArg List.length h
    simp at this
    omega
  rw [e, cut_sx, show min a l.length = a by omega, show min (a + 2) l.length = a + 1 by omega, h, show a + 1 - a = 1 by omega]
  rfl
theorem cut1 {l r : List Nat} {a c : Nat} (h : l.drop a = c :: r) : cutS (sx l) (some (a : Int)) (some ((a : Int) + 1)) = sx [c] := by
  have e : ((a : Int) + 1) = ((a + 1 : Nat) : Int) := by omega
  have hl : l.length = a + 1 + r.length := by
    have := congrArg List.length h
    simp at this
    omega
  rw [e, cut_sx, Nat.min_eq_left (by omega), Nat.min_eq_left (by omega), h, show a + 1 - a = 1 by omega]
  rfl
theorem at_sx {l r : List Nat} {a c : Nat} (h : l.drop a = c :: r) (hz : l.length ≤ sizeLine) : rvIx (.fr (.str (sx l))) (.fr (.int (a : Nat))) = some (.fr (.str (sx [c]))) := by
  have hlt : a < l.length := by
    have := congrArg List.length h
    simp at this
    omega
  have hc : l[a]? = some c := by
    have := List.getElem?_drop (xs := l) (i := a) (j := 0)
    rw [h] at this
    simpa using this.symm
  have e1 : ixL (.fr (.str (sx l))) (.fr (.int (a : Nat))) = none := rfl
  have e2 : ixT (.fr (.str (sx l))) (.fr (.int (a : Nat))) = none := rfl
  have e3 : ixS (.fr (.str (sx l))) (.fr (.int (a : Nat))) = some (.fr (.str (sx [c]))) := by
    show (if (sx l).length ≤ sizeLine then (L2.atI (sx l).cps.toList (a : Nat)).map (fun c => W.fr (.str ⟨#[c]⟩)) else none) = _
    rw [sx_len, if_pos hz]
    have : L2.atI (sx l).cps.toList ((a : Nat) : Int) = some c := by
      unfold L2.atI L2.ixN
      have hs : (sx l).cps.toList = l := by simp
      rw [hs, if_pos (by omega), if_pos (by omega)]
      simpa using hc
    rw [this]; rfl
  unfold rvIx orO
  rw [e1, e2, e3]
/-! ### reading -/
def quiet (c : Nat) : Bool := decide (c ∈ ("-'" : Str).cps.toList)
def readL (mem : Str → Bool) : List Nat → Option (List Str)
  | [] => some []
  | [c] => if quiet c = true then some [] else if mem (sx [c]) = true then some [sx [c]] else none
  | c :: d :: r => if quiet c = true then readL mem (d :: r) else if mem (sx [c, d]) = true then (readL mem r).map (sx [c, d] :: ·) else if mem (sx [c]) = true then (readL mem (d :: r)).map (sx [c] :: ·) else none
theorem in_quiet {c : Nat} : rvIn (.fr (.str (sx [c]))) (.fr (.str "-'")) = some (.fr (.bl (quiet c))) := rfl
theorem sl_sx {l : List Nat} {lo hi : Option Int} (hz : l.length ≤ sizeLine) : rvSl (.fr (.str (sx l))) lo hi = some (.fr (.str (cutS (sx l) lo hi))) := by
  have e : slS (.fr (.str (sx l))) lo hi = some (.fr (.str (cutS (sx l) lo hi))) := by
    show (if (sx l).length ≤ sizeLine then some _ else none) = _
    rw [sx_len, if_pos hz]
  unfold rvSl orS
  rw [e]

/-- what stands of a list or a table as a settled value: x in it -/
structure MemW (o : W) (mem : Str → Bool) : Prop where
  h : ∀ l : List Nat, 0 < l.length → l.length ≤ 2 → rvIn (.fr (.str (sx l))) o = some (.fr (.bl (mem (sx l))))
structure MemR (o : W) (mem : Str → Bool) : Prop where
  h : ∀ l : List Nat, 0 < l.length → l.length ≤ 2 → (∀ c ∈ l, c < 1114112) → rvIn (.fr (.str (sx l))) o = some (.fr (.bl (mem (sx l))))
theorem lt_ii {i j : Int} : rvLtU (.fr (.int i)) (.fr (.int j)) = some (.fr (.bl (decide (i < j)))) := rfl
theorem len_sx {l : List Nat} (hz : l.length ≤ sizeLine) : rvLenS [.fr (.str (sx l))] = some (.fr (.int (l.length : Nat))) := by
  show ((if (sx l).length ≤ sizeLine then some (sx l).length else none).map fun (n : Nat) => W.fr (.int (n : Int))) = _
  rw [sx_len, if_pos hz]; rfl
section
variable {S S1 S2 S3 : Sl} {i : Nat} {w x y : W}
theorem ev_if {c : M Bool} {f g : M W} {t : Bool} {v : W} (h : Rn c S t S1) (ht : t = true → Rn f S1 v S2) (hf : t = false → Rn g S1 v S2) : Rn (mIf c f g) S v S2 := by
  refine ev_bind h ?_
  cases t with
  | true => exact ht rfl
  | false => exact hf rfl
theorem ev_part {f : M W} {i : Int} (h : Rn f S (.fr (.int i)) S1) : Rn (mPart f) S (some i) S1 := ev_bind h rfl
theorem ev_sl {rv : W → Option Int → Option Int → Option W} {f : M Opd} {l u : M (Option Int)} {a : Opd} {lo hi : Option Int} (h : Rn f S a S1) (hl : Rn l S1 lo S2) (hu : Rn u S2 hi S3) (ha : a.get S3 = some x) (hr : rv x lo hi = some w) : Rn (mSl rv f l u) S w S3 := by
  unfold mSl
  refine ev_bind h (ev_bind hl (ev_bind hu ?_))
  unfold Rn
  dsimp only
  rw [ha]
  show (rv x lo hi).map _ = _
  rw [hr]; rfl
theorem ev_and {f g : M Bool} {s t : Bool} (h : Rn f S s S1) (hg : s = true → Rn g S1 t S2) (hn : s = false → t = false ∧ S2 = S1) : Rn (mAnd f g) S t S2 := by
  refine ev_bind h ?_
  cases s with
  | true => exact hg rfl
  | false =>
    obtain ⟨rfl, rfl⟩ := hn rfl
    exact rfl
theorem rns_while {t : M Bool} {b : MS} {n : Nat} {v : Flo} (h : Rn t S true S1) (hb : RnS b S1 .nx S2) (q : RnS (mWhile t b n) S2 v S3) : RnS (mWhile t b (n + 1)) S v S3 := by
  unfold RnS mWhile
  refine rns_bind h ?_
  unfold RnS at *
  rw [if_pos rfl]
  show (match b S1 with
    | some (.nx, S2) => mWhile t b n S2
    | some (.ct, S2) => mWhile t b n S2
    | some (.bk, S2) => some (.nx, S2)
    | r => r) = _
  rw [hb]
  exact q
theorem rns_whileR {t : M Bool} {b : MS} {n : Nat} {w : W} (h : Rn t S true S1) (hb : RnS b S1 (.rt w) S2) : RnS (mWhile t b (n + 1)) S (.rt w) S2 := by
  unfold RnS mWhile
  refine rns_bind h ?_
  unfold RnS at *
  rw [if_pos rfl]
  show (match b S1 with
    | some (.nx, S2) => mWhile t b n S2
    | some (.ct, S2) => mWhile t b n S2
    | some (.bk, S2) => some (.nx, S2)
    | r => r) = _
  rw [hb]
theorem rns_whileE {t : M Bool} {b : MS} {n : Nat} (h : Rn t S false S1) : RnS (mWhile t b (n + 1)) S .nx S1 := by
  unfold RnS mWhile
  refine rns_bind h ?_
  unfold RnS
  rw [if_neg (by decide)]
end

/-! ### the law's own walk -/
def RS (sg : W) (l : List Nat) (acc : List D) (a : Nat) (s4 : Option W) : Sl := [some sg, some (.fr (.str (sx l))), some (newL acc), some (.fr (.int (a : Nat))), s4]
theorem read_test {sg : W} {l : List Nat} (hz : l.length ≤ sizeLine) {acc : List D} {a : Nat} {s4 : Option W} : Rn (mTest (mOp2 rvLtU (mSlot 3) (mTmp (mCall rvLenS (mCons (mSlot 1) (mNil)))))) (RS sg l acc a s4) (decide (a < l.length)) (RS sg l acc a s4) := by
  refine ev_test (ev_op2 (x := .fr (.int (a : Nat))) (y := .fr (.int (l.length : Nat))) (ev_slot rfl) (ev_tmp (ev_call (ev_cons (ev_slot rfl) ev_nil) rfl (len_sx hz))) rfl rfl ?_)
  rw [lt_ii]
  congr 4
  simp

theorem eqD_int {i j : Int} : eqD (.int i) (.int j) = some (i == j) := rfl
theorem ev_app {i : Nat} {f : M W} {d : D} {ds : List D} {S S1 : Sl} (hh : hasL i S = true) (h : Rn f S (.fr d) S1) (e : (S1[i]?).join = some (newL ds)) (hl : ds.length < sizeLine) : Rn (mAppend i f) S (.fr .non) (S1.set i (some (newL (ds ++ [d])))) := by
  have := ev_append (ws := ds.map W.fr) hh h e (by rw [List.length_map]; exact hl)
  have e2 : W.lst (ds.map W.fr ++ [W.fr d]) = newL (ds ++ [d]) := by unfold newL; rw [List.map_append]; rfl
  rw [e2] at this
  exact this
def RSg (sg : W) (l : List Nat) (acc : List D) (a : Int) (s4 : Option W) : Sl := [some sg, some (.fr (.str (sx l))), some (newL acc), some (.fr (.int a)), s4]
theorem RS_int {sg : W} {l : List Nat} {acc : List D} {a : Nat} {k : Nat} {s4 : Option W} : RSg sg l acc ((a : Int) + (k : Int)) s4 = RS sg l acc (a + k) s4 := by
  unfold RSg RS
  have : ((a + k : Nat) : Int) = (a : Int) + k := by omega
  rw [this]
/-- one turn of the law's own walk -/
theorem read_body {sg : W} {mem : Str → Bool} (hm : MemR sg mem) {l r : List Nat} (hz : l.length ≤ 1000) {acc : List D} (hacc : acc.length ≤ 1000) {a c : Nat} {s4 : Option W} {tw : List Nat} (hk : ∀ c ∈ tw, c < 1114112) (hkc : c < 1114112) (hd : l.drop a = c :: r) (ht : cutS (sx l) (some (a : Int)) (some ((a : Int) + 2)) = sx tw) (ht1 : 0 < tw.length) (ht2 : tw.length ≤ 2) :
    RnS b__law_read_0 (RS sg l acc a s4) (if quiet c = true then .nx else if (decide (tw.length = 2) && mem (sx tw)) = true then .nx else if mem (sx [c]) = true then .nx else .rt (.fr .non))
      (if quiet c = true then RS sg l acc (a + 1) (some (.fr (.str (sx tw)))) else if (decide (tw.length = 2) && mem (sx tw)) = true then RS sg l (acc ++ [.str (sx tw)]) (a + 2) (some (.fr (.str (sx tw)))) else if mem (sx [c]) = true then RS sg l (acc ++ [.str (sx [c])]) (a + 1) (some (.fr (.str (sx tw)))) else RS sg l acc a (some (.fr (.str (sx tw))))) := by
  have hz2 : l.length ≤ sizeLine := by rw [sizeLine_eq]; omega
  have hat := at_sx hd hz2
  have s1 : RnS (mAsgS 4 (mSl rvSl (mSlot 1) (mPart (mVar 3)) (mPart (mOp2 rvAdd (mSlot 3) (mTmp (pureM (.fr (.int 2)))))))) (RS sg l acc a s4) .nx (RS sg l acc a (some (.fr (.str (sx tw))))) := by
    refine RnS.to (rns_asgS (ev_sl (x := .fr (.str (sx l))) (ev_slot rfl) (ev_part (ev_varS (d := .int (a : Nat)) rfl)) (ev_part (ev_op2 (x := .fr (.int (a : Nat))) (y := .fr (.int 2)) (ev_slot rfl) (ev_tmp ev_pure) rfl rfl rvAdd_i)) rfl (sl_sx hz2)) (Nat.le_of_ble_eq_true rfl)) ?_
    rw [ht]; rfl
  refine rns_seq s1 ?_
  have hix : Rn (mOp2 rvIx (mSlot 1) (mSlot 3)) (RS sg l acc a (some (.fr (.str (sx tw))))) (.fr (.str (sx [c]))) (RS sg l acc a (some (.fr (.str (sx tw))))) := ev_op2 (x := .fr (.str (sx l))) (y := .fr (.int (a : Nat))) (ev_slot rfl) (ev_slot rfl) rfl rfl hat
  have up : ∀ (acc' : List D) (k : Nat), RnS (mAsgS 3 (mOp2 rvAdd (mSlot 3) (mTmp (pureM (.fr (.int (k : Nat))))))) (RS sg l acc' a (some (.fr (.str (sx tw))))) .nx (RS sg l acc' (a + k) (some (.fr (.str (sx tw))))) := fun acc' k =>
    RnS.to (rns_asgS (ev_op2 (x := .fr (.int (a : Nat))) (y := .fr (.int (k : Nat))) (ev_slot rfl) (ev_tmp ev_pure) rfl rfl rvAdd_i) (Nat.le_of_ble_eq_true rfl)) RS_int
  refine rns_if (t := quiet c) (ev_test (ev_op2 (x := .fr (.str (sx [c]))) (y := .fr (.str "-'")) (ev_tmp hix) (ev_tmp ev_pure) rfl rfl in_quiet)) (fun q => ?_) fun q => ?_
  · rw [if_pos q, if_pos q]
    exact up acc 1
  · have nq : ¬ quiet c = true := by rw [q]; decide
    rw [if_neg nq, if_neg nq]
    have t2 : Rn (mAnd (mTest (mOp2 rvEq (mTmp (mCall rvLenS (mCons (mSlot 4) (mNil)))) (mTmp (pureM (.fr (.int 2)))))) (mTest (mOp2 rvIn (mSlot 4) (mSlot 0)))) (RS sg l acc a (some (.fr (.str (sx tw))))) (decide (tw.length = 2) && mem (sx tw)) (RS sg l acc a (some (.fr (.str (sx tw))))) := by
      refine ev_and (s := decide (tw.length = 2)) (S1 := RS sg l acc a (some (.fr (.str (sx tw))))) (ev_test (ev_op2 (x := .fr (.int (tw.length : Nat))) (y := .fr (.int 2)) (ev_tmp (ev_call (ev_cons (ev_slot rfl) ev_nil) rfl (len_sx (size100 (by omega))))) (ev_tmp ev_pure) rfl rfl (rvEq_ok ?_))) (fun h => ?_) fun h => ?_
      · show eqD (.int (tw.length : Nat)) (.int 2) = _
        rw [eqD_int]
        congr 1
        by_cases e : tw.length = 2
        · simp [e]
        · simp [e]; omega
      · rw [h, Bool.true_and]
        exact ev_test (ev_op2 (x := .fr (.str (sx tw))) (y := sg) (ev_slot rfl) (ev_slot rfl) rfl rfl (hm.h tw ht1 ht2 hk))
      · rw [h]; exact ⟨rfl, rfl⟩
    refine rns_if t2 (fun q2 => ?_) fun q2 => ?_
    · rw [if_pos q2, if_pos q2]
      exact rns_seq (S1 := RS sg l (acc ++ [.str (sx tw)]) a (some (.fr (.str (sx tw))))) (RnS.to (rns_drop (ev_app (ds := acc) rfl (ev_varS (d := .str (sx tw)) rfl) rfl (by rw [sizeLine_eq]; omega))) rfl) (up (acc ++ [.str (sx tw)]) 2)
    · have nq : ¬ (decide (tw.length = 2) && mem (sx tw)) = true := by rw [q2]; decide
      rw [if_neg nq, if_neg nq]
      refine rns_if (t := mem (sx [c])) (ev_test (ev_op2 (x := .fr (.str (sx [c]))) (y := sg) (ev_tmp hix) (ev_slot rfl) rfl rfl (hm.h [c] (Nat.le_of_ble_eq_true rfl) (Nat.le_of_ble_eq_true rfl) (fun x hx => by rw [List.mem_singleton.mp hx]; exact hkc)))) (fun q3 => ?_) fun q3 => ?_
      · rw [if_pos q3, if_pos q3]
        exact rns_seq (S1 := RS sg l (acc ++ [.str (sx [c])]) a (some (.fr (.str (sx tw))))) (RnS.to (rns_drop (ev_app (ds := acc) rfl hix rfl (by rw [sizeLine_eq]; omega))) rfl) (up (acc ++ [.str (sx [c])]) 1)
      · have nq : ¬ mem (sx [c]) = true := by rw [q3]; decide
        rw [if_neg nq, if_neg nq]
        exact rns_ret ev_pure

theorem strsD_app {xs ys : List Str} : (xs ++ ys).map D.str = xs.map D.str ++ ys.map D.str := List.map_append
theorem rest_step {l r : List Nat} {a c : Nat} (h : l.drop a = c :: r) : l.drop (a + 1) = r := by
  have : l.drop (a + 1) = (l.drop a).drop 1 := by rw [List.drop_drop]
  rw [this, h]; rfl
theorem rest_lt {l r : List Nat} {a c : Nat} (h : l.drop a = c :: r) : a < l.length := by
  have := congrArg List.length h
  simp at this
  omega
/-- how a loop of reading ends -/
def EndsR (R : List D → Nat → Option W → Sl) (l : List Nat) (t : M Bool) (b : MS) (n : Nat) (S : Sl) (acc : List Str) (o : Option (List Str)) : Prop := ∃ s4', match o with
  | some out => RnS (mWhile t b n) S .nx (R ((acc ++ out).map .str) l.length s4')
  | none => ∃ acc' a', RnS (mWhile t b n) S (.rt (.fr .non)) (R acc' a' s4')
theorem endsR_next {R : List D → Nat → Option W → Sl} {l : List Nat} {t : M Bool} {b : MS} {n : Nat} {S S1 : Sl} {acc p : List Str} {o o' : Option (List Str)} (ht : Rn t S true S) (hb : RnS b S .nx S1) (h : EndsR R l t b n S1 (acc ++ p) o) (e : o' = o.map (p ++ ·)) : EndsR R l t b (n + 1) S acc o' := by
  subst e
  obtain ⟨s4', h⟩ := h
  refine ⟨s4', ?_⟩
  cases o with
  | some out =>
    have h : RnS (mWhile t b n) S1 .nx (R (((acc ++ p) ++ out).map .str) l.length s4') := h
    rw [List.append_assoc] at h
    exact rns_while ht hb h
  | none =>
    obtain ⟨acc', a', h⟩ := h
    exact ⟨acc', a', rns_while ht hb h⟩
theorem endsR_rt {R : List D → Nat → Option W → Sl} {l : List Nat} {t : M Bool} {b : MS} {n : Nat} {S : Sl} {acc : List Str} {acc' : List D} {a' : Nat} {s4' : Option W} (ht : Rn t S true S) (hb : RnS b S (.rt (.fr .non)) (R acc' a' s4')) : EndsR R l t b (n + 1) S acc none := ⟨s4', acc', a', rns_whileR ht hb⟩
theorem map_nil_app {o : Option (List Str)} : o = o.map ([] ++ ·) := by cases o <;> rfl
/-- the law's own loop -/
theorem read_loop {sg : W} {mem : Str → Bool} (hm : MemR sg mem) {l : List Nat} (hL : ∀ c ∈ l, c < 1114112) (hz : l.length ≤ 1000) : ∀ (n : Nat) (rem : List Nat) (a : Nat) (acc : List Str) (s4 : Option W), rem.length < n → l.drop a = rem → acc.length + rem.length ≤ 1000 → a ≤ l.length →
    EndsR (RS sg l) l (mTest (mOp2 rvLtU (mSlot 3) (mTmp (mCall rvLenS (mCons (mSlot 1) (mNil)))))) (b__law_read_0) n (RS sg l (acc.map .str) a s4) acc (readL mem rem) := by
  have hz2 : l.length ≤ sizeLine := by rw [sizeLine_eq]; omega
  intro n
  induction n with
  | zero => intro rem a acc s4 h; omega
  | succ n ih =>
    intro rem a acc s4 hn hd hacc hal
    have ht := read_test (sg := sg) hz2 (acc := acc.map .str) (a := a) (s4 := s4)
    match rem, hd, hn, hacc with
    | [], hd, hn, hacc =>
      have ha : a = l.length := by
        have := congrArg List.length hd
        simp at this
        omega
      refine ⟨s4, ?_⟩
      show RnS _ _ _ _
      rw [ha] at ht ⊢
      rw [List.append_nil]
      exact rns_whileE (by simpa using ht)
    | [c], hd, hn, hacc =>
      have hlt := rest_lt hd
      rw [decide_eq_true hlt] at ht
      simp only [List.length_cons, List.length_nil] at hn hacc
      have hb := read_body hm hz (acc := acc.map .str) (s4 := s4) (by rw [List.length_map]; omega) (fun x hx => hL x (List.mem_of_mem_drop (by rw [hd]; exact hx))) (hL c (List.mem_of_mem_drop (by rw [hd]; exact List.mem_cons_self ..))) hd (cut2e hd) (Nat.le_of_ble_eq_true rfl) (Nat.le_of_ble_eq_true rfl)
      have hr := rest_step hd
      cases q : quiet c with
      | true =>
        rw [if_pos q, if_pos q] at hb
        exact endsR_next (p := []) ht hb (by rw [List.append_nil]; exact ih [] (a + 1) acc _ (by simp; omega) hr (by simp; omega) hlt) (by simp [readL, q])
      | false =>
        have nq : ¬ quiet c = true := by rw [q]; decide
        have n2 : ¬ (decide ([c].length = 2) && mem (sx [c])) = true := by simp
        rw [if_neg nq, if_neg nq, if_neg n2, if_neg n2] at hb
        cases q1 : mem (sx [c]) with
        | true =>
          rw [if_pos q1, if_pos q1] at hb
          exact endsR_next (p := [sx [c]]) (S1 := RS sg l ((acc ++ [sx [c]]).map .str) (a + 1) (some (.fr (.str (sx [c]))))) ht (by rw [strsD_app]; exact hb) (ih [] (a + 1) (acc ++ [sx [c]]) _ (by simp; omega) hr (by simp; omega) hlt) (by simp [readL, q, q1])
        | false =>
          have n1 : ¬ mem (sx [c]) = true := by rw [q1]; decide
          rw [if_neg n1, if_neg n1] at hb
          have e : readL mem [c] = none := by simp [readL, q, q1]
          rw [e]
          exact endsR_rt ht hb
    | c :: d :: r, hd, hn, hacc =>
      have hlt := rest_lt hd
      rw [decide_eq_true hlt] at ht
      simp only [List.length_cons] at hn hacc
      have hb := read_body hm hz (acc := acc.map .str) (s4 := s4) (by rw [List.length_map]; omega) (fun x hx => hL x (List.mem_of_mem_drop (by rw [hd]; exact (List.mem_cons.mp hx).elim (fun e => e ▸ List.mem_cons_self ..) (fun e => List.mem_cons_of_mem _ (by rw [List.mem_singleton.mp e]; exact List.mem_cons_self ..))))) (hL c (List.mem_of_mem_drop (by rw [hd]; exact List.mem_cons_self ..))) hd (cut2 hd) (Nat.le_of_ble_eq_true rfl) (Nat.le_of_ble_eq_true rfl)
      have hr := rest_step hd
      have hr2 := rest_step hr
      have hlt2 := rest_lt hr
      cases q : quiet c with
      | true =>
        rw [if_pos q, if_pos q] at hb
        exact endsR_next (p := []) ht hb (by rw [List.append_nil]; exact ih (d :: r) (a + 1) acc _ (by simp; omega) hr (by simp; omega) hlt) (by rw [← map_nil_app]; simp [readL, q])
      | false =>
        have nq : ¬ quiet c = true := by rw [q]; decide
        rw [if_neg nq, if_neg nq] at hb
        have e2 : (decide ([c, d].length = 2) && mem (sx [c, d])) = mem (sx [c, d]) := by simp
        rw [e2] at hb
        cases q2 : mem (sx [c, d]) with
        | true =>
          rw [if_pos q2, if_pos q2] at hb
          exact endsR_next (p := [sx [c, d]]) (S1 := RS sg l ((acc ++ [sx [c, d]]).map .str) (a + 2) (some (.fr (.str (sx [c, d]))))) ht (by rw [strsD_app]; exact hb) (ih r (a + 2) (acc ++ [sx [c, d]]) _ (by omega) hr2 (by simp; omega) hlt2) (by simp [readL, q, q2])
        | false =>
          have n2 : ¬ mem (sx [c, d]) = true := by rw [q2]; decide
          rw [if_neg n2, if_neg n2] at hb
          cases q1 : mem (sx [c]) with
          | true =>
            rw [if_pos q1, if_pos q1] at hb
            exact endsR_next (p := [sx [c]]) (S1 := RS sg l ((acc ++ [sx [c]]).map .str) (a + 1) (some (.fr (.str (sx [c, d]))))) ht (by rw [strsD_app]; exact hb) (ih (d :: r) (a + 1) (acc ++ [sx [c]]) _ (by simp; omega) hr (by simp; omega) hlt) (by simp [readL, q, q2, q1])
          | false =>
            have n1 : ¬ mem (sx [c]) = true := by rw [q1]; decide
            rw [if_neg n1, if_neg n1] at hb
            have e : readL mem (c :: d :: r) = none := by simp [readL, q, q2, q1]
            rw [e]
            exact endsR_rt ht hb

/-! ### what is told of a reading -/
def readV (o : Option (List Str)) : D := match o with
  | some [] => .non
  | some (x :: xs) => .lst ((x :: xs).map .str)
  | none => .non
theorem strs_ok : ∀ {xs : List Str}, (∀ x ∈ xs, PyData.strOk x = true) → ∀ d ∈ xs.map D.str, D.ok 0 d := by
  intro xs h d hd
  obtain ⟨x, hx, rfl⟩ := List.mem_map.mp hd
  exact ok_str (h x hx)
theorem shaped_of {d : D} {n : Nat} (h : D.ok n d) (hn : n ≤ 64) : ∃ p, d.py = some p ∧ SeqAt.shaped p = true := by
  obtain ⟨p, e, c, dp⟩ := h
  refine ⟨p, e, ?_⟩
  unfold SeqAt.shaped
  rw [c, decide_eq_true (Nat.le_trans dp hn)]; rfl
theorem eqD_nil {ds : List D} (h : ∀ d ∈ ds, D.ok 0 d) : eqD (.lst ds) (.lst []) = some ds.isEmpty := by
  obtain ⟨ps, e, c, dp⟩ := pyL_ok h
  obtain ⟨p, e1, s1⟩ := shaped_of (ok_lst h) (by decide)
  have e2 : D.py (.lst ds) = some (.list ps) := by simp [D.py, e]
  rw [e2] at e1
  cases e1
  unfold eqD
  rw [e2, show D.py (.lst []) = some (.list []) from rfl]
  dsimp only
  rw [s1, show SeqAt.shaped (.list []) = true by decide]
  cases ds with
  | nil => cases e; rfl
  | cons d ds =>
    unfold pyL at e
    split at e
    · cases e; rfl
    · cases e
theorem readL_ok {mem : Str → Bool} (hmem : ∀ x, mem x = true → PyData.strOk x = true) : ∀ {l : List Nat} {out : List Str}, readL mem l = some out → (∀ x ∈ out, PyData.strOk x = true) ∧ out.length ≤ l.length
  | [], out, e => by cases e; exact ⟨(fun _ h => nomatch h), Nat.le_refl _⟩
  | [c], out, e => by
    unfold readL at e
    split at e
    · cases e; exact ⟨(fun _ h => nomatch h), Nat.zero_le _⟩
    · split at e
      · rename_i h
        cases e
        exact ⟨fun x hx => by rw [List.mem_singleton.mp hx]; exact hmem _ h, Nat.le_refl _⟩
      · cases e
  | c :: d :: r, out, e => by
    unfold readL at e
    split at e
    · have ⟨h1, h2⟩ := readL_ok hmem e
      exact ⟨h1, Nat.le_succ_of_le h2⟩
    · split at e
      · rename_i h
        obtain ⟨out', e1, rfl⟩ := Option.map_eq_some_iff.mp e
        have ⟨h1, h2⟩ := readL_ok hmem e1
        exact ⟨fun x hx => (List.mem_cons.mp hx).elim (fun z => z ▸ hmem _ h) (h1 x), by simp only [List.length_cons]; omega⟩
      · split at e
        · rename_i h
          obtain ⟨out', e1, rfl⟩ := Option.map_eq_some_iff.mp e
          have ⟨h1, h2⟩ := readL_ok hmem e1
          exact ⟨fun x hx => (List.mem_cons.mp hx).elim (fun z => z ▸ hmem _ h) (h1 x), by simp only [List.length_cons] at h2 ⊢; omega⟩
        · cases e
theorem read_ok {sg : D} {mem : Str → Bool} (hm : MemR (.fr sg) mem) (hmem : ∀ x, mem x = true → PyData.strOk x = true) {l : List Nat} (hL : ∀ c ∈ l, c < 1114112) (hz : l.length ≤ 1000) : F__law_read [.fr sg, .fr (.str (sx l))] = some (.ok (.fr (readV (readL mem l))), [.fr sg, .fr (.str (sx l))]) := by
  obtain ⟨s4', h⟩ := read_loop hm hL hz 100000 l 0 [] none (by omega) (by simp) (by simp; omega) (Nat.zero_le _)
  have s0 : RnS (mPar [2, 3] (mCons (mTmp (mWrap .lst (mNil))) (mCons (mTmp (pureM (.fr (.int 0)))) (mNil)))) [some (.fr sg), some (.fr (.str (sx l))), none, none, none] .nx (RS (.fr sg) l ([].map .str) 0 none) :=
    have h0 : Rn (mCons (mTmp (mWrap .lst (mNil))) (mCons (mTmp (pureM (.fr (.int 0)))) (mNil))) [some (.fr sg), some (.fr (.str (sx l))), none, none, none] [.tmp (.lst []), .tmp (.fr (.int 0))] [some (.fr sg), some (.fr (.str (sx l))), none, none, none] := ev_cons (ev_tmp (ev_wrap (os := []) (ws := []) ev_nil rfl (Nat.zero_le _))) (ev_cons (ev_tmp ev_pure) ev_nil)
    rns_bind h0 rfl
  cases e : readL mem l with
  | none =>
    rw [e] at h
    obtain ⟨acc', a', h⟩ := h
    exact mkF_ev (S := RS (.fr sg) l acc' a' s4') rfl (rns_seq s0 (rns_rt h)) rfl
  | some out =>
    rw [e] at h
    replace h : RnS _ _ .nx (RS (.fr sg) l (out.map .str) l.length s4') := h
    have hok := (readL_ok hmem e).1
    have ht : Rn (mTest (mOp2 rvNe (mSlot 2) (mTmp (mWrap .lst (mNil))))) (RS (.fr sg) l (out.map .str) l.length s4') (!(out.map D.str).isEmpty) (RS (.fr sg) l (out.map .str) l.length s4') := by
      refine ev_test (ev_op2 (x := newL (out.map .str)) (y := .lst []) (ev_slot rfl) (ev_tmp (ev_wrap (os := []) (ws := []) ev_nil rfl (Nat.zero_le _))) rfl rfl (rvNe_ok ?_))
      rw [toD_new]
      exact eqD_nil (strs_ok hok)
    cases out with
    | nil => exact mkF_ev (S := RS (.fr sg) l [] l.length s4') rfl (rns_seq s0 (rns_seq h (rns_ret (ev_set (ev_if ht (fun h => nomatch h) fun _ => ev_pure))))) rfl
    | cons x xs =>
      refine mkF_ev (S := [some (.fr sg), some (.fr (.str (sx l))), some (.fr (.lst ((x :: xs).map .str))), some (.fr (.int (l.length : Nat))), s4']) rfl (rns_seq s0 (rns_seq h (RnS.to' (rns_ret (ev_set (ev_if ht (fun _ => ev_var (w := newL ((x :: xs).map .str)) rfl) fun h => nomatch h))) ?_ ?_))) rfl
      · rw [toD_new]; rfl
      · rw [toD_new]; rfl

/-! ### the alphabet's walk -/
def RT (se : W) (l : List Nat) (acc : List D) (a : Nat) (s4 : Option W) : Sl := [some se, some (.fr (.str (sx l))), some (newL acc), some (.fr (.int (a : Nat))), s4]
theorem taken_body {se tb : W} (hse : W.fld "Alphabet" "table" se = some tb) {mem : Str → Bool} (hm : MemW tb mem) {l r : List Nat} (hz : l.length ≤ 1000) {acc : List D} (hacc : acc.length ≤ 1000) {a c : Nat} {s4 : Option W} {tw pk : List Nat} {k : Nat} (hd : l.drop a = c :: r) (ht : cutS (sx l) (some (a : Int)) (some ((a : Int) + 2)) = sx tw) (ht1 : 0 < tw.length) (ht2 : tw.length ≤ 2)
    (hk : k = if (mem (sx tw) && decide (a + 1 < l.length)) = true then 2 else 1) (hp : cutS (sx l) (some (a : Int)) (some ((a : Int) + (k : Int))) = sx pk) (hp1 : 0 < pk.length) (hp2 : pk.length ≤ 2) :
    RnS b_Alphabet_d_taken_0 (RT se l acc a s4) (if quiet c = true then .nx else if mem (sx pk) = true then .nx else .rt (.fr .non))
      (if quiet c = true then RT se l acc (a + 1) (some (.fr (.int (k : Nat)))) else if mem (sx pk) = true then RT se l (acc ++ [.str (sx pk)]) (a + k) (some (.fr (.int (k : Nat)))) else RT se l acc a (some (.fr (.int (k : Nat))))) := by
  have hz2 : l.length ≤ sizeLine := by rw [sizeLine_eq]; omega
  have hat := at_sx hd hz2
  have hfld : ∀ s, Rn (mTmp (mOp1 (W.fld "Alphabet" "table") (mSlot 0))) (RT se l acc a s) (.tmp tb) (RT se l acc a s) := fun s => ev_tmp (ev_op1 (x := se) (ev_slot rfl) rfl hse)
  have s1 : RnS (mAsgS 4 (mIf (mAnd (mTest (mOp2 rvIn (mTmp (mSl rvSl (mSlot 1) (mPart (mVar 3)) (mPart (mOp2 rvAdd (mSlot 3) (mTmp (pureM (.fr (.int 2)))))))) (mTmp (mOp1 (W.fld "Alphabet" "table") (mSlot 0))))) (mTest (mOp2 rvLtU (mTmp (mOp2 rvAdd (mSlot 3) (mTmp (pureM (.fr (.int 1)))))) (mTmp (mCall rvLenS (mCons (mSlot 1) (mNil))))))) (pureM (.fr (.int 2))) (pureM (.fr (.int 1))))) (RT se l acc a s4) .nx (RT se l acc a (some (.fr (.int (k : Nat))))) := by
    have h1 : Rn (mAnd (mTest (mOp2 rvIn (mTmp (mSl rvSl (mSlot 1) (mPart (mVar 3)) (mPart (mOp2 rvAdd (mSlot 3) (mTmp (pureM (.fr (.int 2)))))))) (mTmp (mOp1 (W.fld "Alphabet" "table") (mSlot 0))))) (mTest (mOp2 rvLtU (mTmp (mOp2 rvAdd (mSlot 3) (mTmp (pureM (.fr (.int 1)))))) (mTmp (mCall rvLenS (mCons (mSlot 1) (mNil))))))) (RT se l acc a s4) (mem (sx tw) && decide (a + 1 < l.length)) (RT se l acc a s4) := by
      refine ev_and (s := mem (sx tw)) (S1 := RT se l acc a s4) (ev_test (ev_op2 (x := .fr (.str (sx tw))) (y := tb) (ev_tmp ?_) (hfld s4) rfl rfl (hm.h tw ht1 ht2))) (fun h => ?_) fun h => ?_
      · rw [← ht]
        exact ev_sl (x := .fr (.str (sx l))) (ev_slot rfl) (ev_part (ev_varS (d := .int (a : Nat)) rfl)) (ev_part (ev_op2 (x := .fr (.int (a : Nat))) (y := .fr (.int 2)) (ev_slot rfl) (ev_tmp ev_pure) rfl rfl rvAdd_i)) rfl (sl_sx hz2)
      · rw [h, Bool.true_and]
        refine ev_test (ev_op2 (x := .fr (.int ((a : Nat) + 1))) (y := .fr (.int (l.length : Nat))) (ev_tmp (ev_op2 (x := .fr (.int (a : Nat))) (y := .fr (.int 1)) (ev_slot rfl) (ev_tmp ev_pure) rfl rfl rvAdd_i)) (ev_tmp (ev_call (ev_cons (ev_slot rfl) ev_nil) rfl (len_sx hz2))) rfl rfl ?_)
        rw [lt_ii]
        congr 4
        simp only [eq_iff_iff]
        omega
      · rw [h]; exact ⟨rfl, rfl⟩
    refine RnS.to (rns_asgS (ev_if (S2 := RT se l acc a s4) (v := .fr (.int (k : Nat))) h1 (fun h => ?_) fun h => ?_) (Nat.le_of_ble_eq_true rfl)) rfl
    · rw [hk, if_pos h]; exact ev_pure
    · rw [hk, if_neg (by rw [h]; decide)]; exact ev_pure
  refine rns_seq s1 ?_
  have hix : Rn (mOp2 rvIx (mSlot 1) (mSlot 3)) (RT se l acc a (some (.fr (.int (k : Nat))))) (.fr (.str (sx [c]))) (RT se l acc a (some (.fr (.int (k : Nat))))) := ev_op2 (x := .fr (.str (sx l))) (y := .fr (.int (a : Nat))) (ev_slot rfl) (ev_slot rfl) rfl rfl hat
  have hsl : Rn (mSl rvSl (mSlot 1) (mPart (mVar 3)) (mPart (mOp2 rvAdd (mSlot 3) (mSlot 4)))) (RT se l acc a (some (.fr (.int (k : Nat))))) (.fr (.str (sx pk))) (RT se l acc a (some (.fr (.int (k : Nat))))) := by
    rw [← hp]
    exact ev_sl (x := .fr (.str (sx l))) (ev_slot rfl) (ev_part (ev_varS (d := .int (a : Nat)) rfl)) (ev_part (ev_op2 (x := .fr (.int (a : Nat))) (y := .fr (.int (k : Nat))) (ev_slot rfl) (ev_slot rfl) rfl rfl rvAdd_i)) rfl (sl_sx hz2)
  have hint : ∀ j : Nat, (a : Int) + (j : Int) = ((a + j : Nat) : Int) := fun j => by omega
  refine rns_if (t := quiet c) (ev_test (ev_op2 (x := .fr (.str (sx [c]))) (y := .fr (.str "-'")) (ev_tmp hix) (ev_tmp ev_pure) rfl rfl in_quiet)) (fun q => ?_) fun q => ?_
  · rw [if_pos q, if_pos q]
    refine RnS.to (rns_asgS (ev_op2 (x := .fr (.int (a : Nat))) (y := .fr (.int 1)) (ev_slot rfl) (ev_tmp ev_pure) rfl rfl rvAdd_i) (Nat.le_of_ble_eq_true rfl)) ?_
    have e := hint 1
    unfold RT
    rw [← e]; rfl
  · have nq : ¬ quiet c = true := by rw [q]; decide
    rw [if_neg nq, if_neg nq]
    refine rns_if (t := mem (sx pk)) (ev_test (ev_op2 (x := .fr (.str (sx pk))) (y := tb) (ev_tmp hsl) (hfld _) rfl rfl (hm.h pk hp1 hp2))) (fun q2 => ?_) fun q2 => ?_
    · rw [if_pos q2, if_pos q2]
      refine rns_seq (S1 := RT se l (acc ++ [.str (sx pk)]) a (some (.fr (.int (k : Nat))))) (RnS.to (rns_drop (ev_app (ds := acc) (d := .str (sx pk)) rfl (ev_set hsl) rfl (by rw [sizeLine_eq]; omega))) rfl) ?_
      refine RnS.to (rns_asgS (ev_op2 (x := .fr (.int (a : Nat))) (y := .fr (.int (k : Nat))) (ev_slot rfl) (ev_slot rfl) rfl rfl rvAdd_i) (Nat.le_of_ble_eq_true rfl)) ?_
      have e := hint k
      unfold RT
      rw [← e]; rfl
    · have nq : ¬ mem (sx pk) = true := by rw [q2]; decide
      rw [if_neg nq, if_neg nq]
      exact rns_ret ev_pure

theorem taken_loop {se tb : W} (hse : W.fld "Alphabet" "table" se = some tb) {mem : Str → Bool} (hm : MemW tb mem) {l : List Nat} (hz : l.length ≤ 1000) : ∀ (n : Nat) (rem : List Nat) (a : Nat) (acc : List Str) (s4 : Option W), rem.length < n → l.drop a = rem → acc.length + rem.length ≤ 1000 → a ≤ l.length →
    EndsR (RT se l) l (mTest (mOp2 rvLtU (mSlot 3) (mTmp (mCall rvLenS (mCons (mSlot 1) (mNil)))))) (b_Alphabet_d_taken_0) n (RT se l (acc.map .str) a s4) acc (readL mem rem) := by
  have hz2 : l.length ≤ sizeLine := by rw [sizeLine_eq]; omega
  intro n
  induction n with
  | zero => intro rem a acc s4 h; omega
  | succ n ih =>
    intro rem a acc s4 hn hd hacc hal
    have ht : Rn (mTest (mOp2 rvLtU (mSlot 3) (mTmp (mCall rvLenS (mCons (mSlot 1) (mNil)))))) (RT se l (acc.map .str) a s4) (decide (a < l.length)) (RT se l (acc.map .str) a s4) := read_test (sg := se) hz2 (acc := acc.map .str) (a := a) (s4 := s4)
    match rem, hd, hn, hacc with
    | [], hd, hn, hacc =>
      have ha : a = l.length := by
        have := congrArg List.length hd
        simp at this
        omega
      refine ⟨s4, ?_⟩
      show RnS _ _ _ _
      rw [ha] at ht ⊢
      rw [List.append_nil]
      exact rns_whileE (by simpa using ht)
    | [c], hd, hn, hacc =>
      have hlt := rest_lt hd
      rw [decide_eq_true hlt] at ht
      simp only [List.length_cons, List.length_nil] at hn hacc
      have hr := rest_step hd
      have hend : ¬ a + 1 < l.length := by
        have := congrArg List.length hd
        simp at this
        omega
      have hb := taken_body hse hm hz (acc := acc.map .str) (s4 := s4) (k := 1) (pk := [c]) (by rw [List.length_map]; omega) hd (cut2e hd) (Nat.le_of_ble_eq_true rfl) (Nat.le_of_ble_eq_true rfl) (by rw [decide_eq_false hend, Bool.and_false]; rfl) (cut1 hd) (Nat.le_of_ble_eq_true rfl) (Nat.le_of_ble_eq_true rfl)
      cases q : quiet c with
      | true =>
        rw [if_pos q, if_pos q] at hb
        exact endsR_next (p := []) ht hb (by rw [List.append_nil]; exact ih [] (a + 1) acc _ (by simp; omega) hr (by simp; omega) hlt) (by simp [readL, q])
      | false =>
        have nq : ¬ quiet c = true := by rw [q]; decide
        rw [if_neg nq, if_neg nq] at hb
        cases q1 : mem (sx [c]) with
        | true =>
          rw [if_pos q1, if_pos q1] at hb
          exact endsR_next (p := [sx [c]]) (S1 := RT se l ((acc ++ [sx [c]]).map .str) (a + 1) (some (.fr (.int (1 : Nat))))) ht (by rw [strsD_app]; exact hb) (ih [] (a + 1) (acc ++ [sx [c]]) _ (by simp; omega) hr (by simp; omega) hlt) (by simp [readL, q, q1])
        | false =>
          have n1 : ¬ mem (sx [c]) = true := by rw [q1]; decide
          rw [if_neg n1, if_neg n1] at hb
          have e : readL mem [c] = none := by simp [readL, q, q1]
          rw [e]
          exact endsR_rt ht hb
    | c :: d :: r, hd, hn, hacc =>
      have hlt := rest_lt hd
      rw [decide_eq_true hlt] at ht
      simp only [List.length_cons] at hn hacc
      have hr := rest_step hd
      have hr2 := rest_step hr
      have hlt2 := rest_lt hr
      cases q2 : mem (sx [c, d]) with
      | true =>
        have hb := taken_body hse hm hz (acc := acc.map .str) (s4 := s4) (k := 2) (pk := [c, d]) (by rw [List.length_map]; omega) hd (cut2 hd) (Nat.le_of_ble_eq_true rfl) (Nat.le_of_ble_eq_true rfl) (by rw [decide_eq_true hlt2, q2]; rfl) (cut2 hd) (Nat.le_of_ble_eq_true rfl) (Nat.le_of_ble_eq_true rfl)
        cases q : quiet c with
        | true =>
          rw [if_pos q, if_pos q] at hb
          exact endsR_next (p := []) ht hb (by rw [List.append_nil]; exact ih (d :: r) (a + 1) acc _ (by simp; omega) hr (by simp; omega) hlt) (by rw [← map_nil_app]; simp [readL, q])
        | false =>
          have nq : ¬ quiet c = true := by rw [q]; decide
          rw [if_neg nq, if_neg nq, if_pos q2, if_pos q2] at hb
          exact endsR_next (p := [sx [c, d]]) (S1 := RT se l ((acc ++ [sx [c, d]]).map .str) (a + 2) (some (.fr (.int (2 : Nat))))) ht (by rw [strsD_app]; exact hb) (ih r (a + 2) (acc ++ [sx [c, d]]) _ (by omega) hr2 (by simp; omega) hlt2) (by simp [readL, q, q2])
      | false =>
        have hb := taken_body hse hm hz (acc := acc.map .str) (s4 := s4) (k := 1) (pk := [c]) (by rw [List.length_map]; omega) hd (cut2 hd) (Nat.le_of_ble_eq_true rfl) (Nat.le_of_ble_eq_true rfl) (by rw [q2]; rfl) (cut1 hd) (Nat.le_of_ble_eq_true rfl) (Nat.le_of_ble_eq_true rfl)
        cases q : quiet c with
        | true =>
          rw [if_pos q, if_pos q] at hb
          exact endsR_next (p := []) ht hb (by rw [List.append_nil]; exact ih (d :: r) (a + 1) acc _ (by simp; omega) hr (by simp; omega) hlt) (by rw [← map_nil_app]; simp [readL, q])
        | false =>
          have nq : ¬ quiet c = true := by rw [q]; decide
          rw [if_neg nq, if_neg nq] at hb
          cases q1 : mem (sx [c]) with
          | true =>
            rw [if_pos q1, if_pos q1] at hb
            exact endsR_next (p := [sx [c]]) (S1 := RT se l ((acc ++ [sx [c]]).map .str) (a + 1) (some (.fr (.int (1 : Nat))))) ht (by rw [strsD_app]; exact hb) (ih (d :: r) (a + 1) (acc ++ [sx [c]]) _ (by simp; omega) hr (by simp; omega) hlt) (by simp [readL, q, q2, q1])
          | false =>
            have n1 : ¬ mem (sx [c]) = true := by rw [q1]; decide
            rw [if_neg n1, if_neg n1] at hb
            have e : readL mem (c :: d :: r) = none := by simp [readL, q, q2, q1]
            rw [e]
            exact endsR_rt ht hb
theorem taken_ok {se : D} {tb : W} (hse : W.fld "Alphabet" "table" (.fr se) = some tb) {mem : Str → Bool} (hm : MemW tb mem) (hmem : ∀ x, mem x = true → PyData.strOk x = true) {l : List Nat} (hz : l.length ≤ 1000) : F_Alphabet_d_taken [.fr se, .fr (.str (sx l))] = some (.ok (.fr (readV (readL mem l))), [.fr se, .fr (.str (sx l))]) := by
  obtain ⟨s4', h⟩ := taken_loop hse hm hz 100000 l 0 [] none (by omega) (by simp) (by simp; omega) (Nat.zero_le _)
  have s0 : RnS (mPar [2, 3] (mCons (mTmp (mWrap .lst (mNil))) (mCons (mTmp (pureM (.fr (.int 0)))) (mNil)))) [some (.fr se), some (.fr (.str (sx l))), none, none, none] .nx (RT (.fr se) l ([].map .str) 0 none) :=
    have h0 : Rn (mCons (mTmp (mWrap .lst (mNil))) (mCons (mTmp (pureM (.fr (.int 0)))) (mNil))) [some (.fr se), some (.fr (.str (sx l))), none, none, none] [.tmp (.lst []), .tmp (.fr (.int 0))] [some (.fr se), some (.fr (.str (sx l))), none, none, none] := ev_cons (ev_tmp (ev_wrap (os := []) (ws := []) ev_nil rfl (Nat.zero_le _))) (ev_cons (ev_tmp ev_pure) ev_nil)
    rns_bind h0 rfl
  cases e : readL mem l with
  | none =>
    rw [e] at h
    obtain ⟨acc', a', h⟩ := h
    exact mkF_ev (S := RT (.fr se) l acc' a' s4') rfl (rns_seq s0 (rns_rt h)) rfl
  | some out =>
    rw [e] at h
    replace h : RnS _ _ .nx (RT (.fr se) l (out.map .str) l.length s4') := h
    have hok := (readL_ok hmem e).1
    have ht : Rn (mTest (mOp2 rvNe (mSlot 2) (mTmp (mWrap .lst (mNil))))) (RT (.fr se) l (out.map .str) l.length s4') (!(out.map D.str).isEmpty) (RT (.fr se) l (out.map .str) l.length s4') := by
      refine ev_test (ev_op2 (x := newL (out.map .str)) (y := .lst []) (ev_slot rfl) (ev_tmp (ev_wrap (os := []) (ws := []) ev_nil rfl (Nat.zero_le _))) rfl rfl (rvNe_ok ?_))
      rw [toD_new]
      exact eqD_nil (strs_ok hok)
    cases out with
    | nil => exact mkF_ev (S := RT (.fr se) l [] l.length s4') rfl (rns_seq s0 (rns_seq h (rns_ret (ev_set (ev_if ht (fun h => nomatch h) fun _ => ev_pure))))) rfl
    | cons x xs =>
      refine mkF_ev (S := [some (.fr se), some (.fr (.str (sx l))), some (.fr (.lst ((x :: xs).map .str))), some (.fr (.int (l.length : Nat))), s4']) rfl (rns_seq s0 (rns_seq h (RnS.to' (rns_ret (ev_set (ev_if ht (fun _ => ev_var (w := newL ((x :: xs).map .str)) rfl) fun h => nomatch h))) ?_ ?_))) rfl
      · rw [toD_new]; rfl
      · rw [toD_new]; rfl

/-! ### letters in a list, in a table -/
def pos (x : Str) : List Str → Option Nat
  | [] => none
  | s :: r => if s = x then some 0 else (pos x r).map (· + 1)
def mem (sg : List Str) (x : Str) : Bool := (pos x sg).isSome
def tabOf (i : Nat) : List Str → List (Key × D)
  | [] => []
  | s :: r => (.inr s, .int (i : Nat)) :: tabOf (i + 1) r
theorem look_tab {x : Str} : ∀ {sg : List Str} {i : Nat}, lookD (tabOf i sg) (.inr x) = (pos x sg).map fun p => D.int ((i + p : Nat) : Int)
  | [], _ => rfl
  | s :: r, i => by
    have ih := look_tab (x := x) (sg := r) (i := i + 1)
    by_cases e : s = x
    · subst e
      have : lookD (tabOf i (s :: r)) (.inr s) = some (.int (i : Nat)) := by simp [lookD, tabOf]
      rw [this]
      simp [pos]
    · have e1 : lookD (tabOf i (s :: r)) (.inr x) = lookD (tabOf (i + 1) r) (.inr x) := by
        have : ¬ (Sum.inr s : Key) = .inr x := fun z => e (by injection z)
        simp [lookD, tabOf, List.find?_cons, this]
      rw [e1, ih]
      have e2 : pos x (s :: r) = (pos x r).map (· + 1) := if_neg e
      rw [e2]
      cases pos x r with
      | none => rfl
      | some p =>
        show some (D.int ((i + 1 + p : Nat) : Int)) = some (D.int ((i + (p + 1) : Nat) : Int))
        rw [show i + 1 + p = i + (p + 1) by omega]
theorem mem_tab {sg : List Str} : MemW (.fr (.dct (tabOf 0 sg))) (mem sg) := ⟨fun l _ _ => by
  show (inW (.fr (.str (sx l))) (.fr (.dct (tabOf 0 sg)))).map _ = _
  have : inW (.fr (.str (sx l))) (.fr (.dct (tabOf 0 sg))) = some (lookD (tabOf 0 sg) (.inr (sx l))).isSome := rfl
  rw [this, look_tab]
  unfold mem
  cases pos (sx l) sg <;> rfl⟩
theorem pyL_strs : ∀ {xs : List Str}, pyL (xs.map D.str) = some (xs.map PyData.str)
  | [] => by simp [pyL]
  | x :: xs => by
    have := pyL_strs (xs := xs)
    simp [pyL, this, D.py]
theorem lay_strs : ∀ {xs : List Str}, (∀ x ∈ xs, PyData.strOk x = true) → PyData.canLayAll0 (xs.map PyData.str) = true ∧ PyData.depthAll (xs.map PyData.str) = 0
  | [], _ => ⟨rfl, rfl⟩
  | x :: xs, h => by
    obtain ⟨h1, h2⟩ := lay_strs fun y hy => h y (List.mem_cons_of_mem _ hy)
    refine ⟨by simp [PyData.canLayAll0, PyData.canLay0, h x (List.mem_cons_self ..), h1], ?_⟩
    show max 0 (PyData.depthAll (xs.map .str)) = 0
    rw [h2]; rfl
theorem shaped_strs {xs : List Str} (h : ∀ x ∈ xs, PyData.strOk x = true) : SeqAt.shaped (.list (xs.map PyData.str)) = true := by
  obtain ⟨h1, h2⟩ := lay_strs h
  unfold SeqAt.shaped
  have : PyData.depth (.list (xs.map .str)) = 1 := by show PyData.depthAll _ + 1 = 1; rw [h2]
  rw [this, show PyData.canLay0 (.list (xs.map .str)) = true from h1]; rfl
theorem shaped_str {x : Str} (h : PyData.strOk x = true) : SeqAt.shaped (.str x) = true := by
  unfold SeqAt.shaped
  rw [show PyData.canLay0 (.str x) = true from h]; rfl
theorem any_pos {x : Str} : ∀ {sg : List Str}, ((sg.map PyData.str).any fun z => PyData.eqv z (.str x)) = (pos x sg).isSome
  | [] => rfl
  | s :: r => by
    rw [List.map_cons, List.any_cons, any_pos]
    show ((s == x) || _) = _
    by_cases e : s = x
    · subst e; simp [pos]
    · have : (s == x) = false := by simpa using e
      rw [this, show pos x (s :: r) = (pos x r).map (· + 1) from if_neg e]
      cases pos x r <;> rfl
theorem in_lst {sg : List Str} (hs : ∀ x ∈ sg, PyData.strOk x = true) {x : Str} (hx : PyData.strOk x = true) : rvIn (.fr (.str x)) (.fr (.lst (sg.map .str))) = some (.fr (.bl (mem sg x))) := by
  have : inW (.fr (.str x)) (.fr (.lst (sg.map .str))) = inD (.str x) (.lst (sg.map .str)) := rfl
  unfold rvIn
  rw [this]
  unfold inD
  have e2 : D.py (.lst (sg.map D.str)) = some (.list (sg.map PyData.str)) := by
    show (pyL _).map PyData.list = _
    rw [pyL_strs]; rfl
  rw [show D.py (.str x) = some (.str x) from rfl, e2]
  dsimp only
  rw [shaped_str hx, shaped_strs hs]
  simp only [Bool.and_self, if_true, Option.map_some]
  rw [any_pos]; rfl
/-- sign texts that may be told -/
theorem mem_lst {sg : List Str} (hs : ∀ x ∈ sg, PyData.strOk x = true) (hc : ∀ l : List Nat, (∀ c ∈ l, c < 1114112) → PyData.strOk (sx l) = true) : MemR (.fr (.lst (sg.map .str))) (mem sg) := ⟨fun l _ _ h => in_lst hs (hc l h)⟩

/-! ### keys -/
theorem readL_mem {mem : Str → Bool} : ∀ {l : List Nat} {out : List Str}, readL mem l = some out → ∀ x ∈ out, mem x = true
  | [], out, e, x, hx => by simp [readL] at e; subst e; exact nomatch hx
  | [c], out, e, x, hx => by
    unfold readL at e
    by_cases q : quiet c = true
    · simp [q] at e; subst e; exact nomatch hx
    · by_cases q1 : mem (sx [c]) = true
      · simp [q, q1] at e; subst e
        rcases List.mem_singleton.mp hx with rfl
        exact q1
      · simp [q, q1] at e
  | c :: d :: r, out, e, x, hx => by
    unfold readL at e
    by_cases q : quiet c = true
    · simp only [q, if_true] at e
      exact readL_mem e x hx
    · by_cases q2 : mem (sx [c, d]) = true
      · simp only [q, q2, if_true] at e
        obtain ⟨o2, e2, rfl⟩ := Option.map_eq_some_iff.mp e
        rcases List.mem_cons.mp hx with rfl | hx
        · exact q2
        · exact readL_mem e2 x hx
      · by_cases q1 : mem (sx [c]) = true
        · simp only [q, q2, q1, if_true] at e
          obtain ⟨o2, e2, rfl⟩ := Option.map_eq_some_iff.mp e
          rcases List.mem_cons.mp hx with rfl | hx
          · exact q1
          · exact readL_mem e2 x hx
        · simp [q, q2, q1] at e
def posI (sg : List Str) (x : Str) : D := .int (((pos x sg).getD 0 : Nat) : Int)
theorem compL_map {own : List Nat} {b : Tgt} {f : M W} {g : D → D} {S : Sl} {ds : List D} (h : ∀ d ∈ ds, ∃ S1 S2, b d S = some S1 ∧ Rn f S1 (.fr (g d)) S2 ∧ wipeS S2 own = S) : mCompL own b (pureM true) f ds S = some ((ds.map g).map .fr, S) := by
  have := compL_fm (own := own) (b := b) (c := pureM true) (f := f) (g := fun d => some (.fr (g d))) (S := S) (ds := ds) fun d hd => by
    obtain ⟨S1, S2, e1, e2, e3⟩ := h d hd
    exact ⟨S1, S1, e1, S2, rfl, e2, e3⟩
  rw [this, List.filterMap_eq_map', List.map_map]; rfl
theorem ix_pos {x : Str} : ∀ {sg : List Str} {i : Nat}, ixOf (.str x) (sg.map PyData.str) i = (pos x sg).map (i + ·)
  | [], _ => rfl
  | s :: r, i => by
    rw [List.map_cons]
    unfold ixOf
    show (if (s == x) = true then some i else _) = _
    by_cases e : s = x
    · subst e; simp [pos]
    · have : ¬ (s == x) = true := by simpa using e
      rw [if_neg this, ix_pos, show pos x (s :: r) = (pos x r).map (· + 1) from if_neg e]
      cases pos x r with
      | none => rfl
      | some p =>
        show some (i + 1 + p) = some (i + (p + 1))
        rw [show i + 1 + p = i + (p + 1) by omega]
theorem index_ok {sg : List Str} (hs : ∀ x ∈ sg, PyData.strOk x = true) {x : Str} (hx : PyData.strOk x = true) (hm : mem sg x = true) : rvIndex (.fr (.lst (sg.map .str))) [.fr (.str x)] = some (.fr (posI sg x)) := by
  have e2 : D.py (.lst (sg.map D.str)) = some (.list (sg.map PyData.str)) := by
    show (pyL _).map PyData.list = _
    rw [pyL_strs]; rfl
  unfold rvIndex
  show (match D.py (.lst (sg.map D.str)), D.py (.str x) with
    | some (.list ps), some q => if SeqAt.shaped (.list ps) && SeqAt.shaped q then (ixOf q ps 0).map fun (j : Nat) => W.fr (.int j) else none
    | _, _ => none) = _
  rw [e2, show D.py (.str x) = some (.str x) from rfl]
  dsimp only
  rw [shaped_str hx, shaped_strs hs]
  simp only [Bool.and_self, if_true]
  rw [ix_pos]
  unfold mem at hm
  unfold posI
  cases e : pos x sg with
  | none => rw [e] at hm; exact nomatch hm
  | some p => simp
theorem ev_bm {ok : W → Bool} {rv : W → List W → Option W} {g : M Opd} {f : M (List Opd)} {a : Opd} {os : List Opd} {x x' w : W} {ws : List W} (h : Rn g S a S1) (e1 : a.get S1 = some x) (hok : ok x = true) (h2 : Rn f S1 os S2) (e2 : a.get S2 = some x') (e3 : getL S2 os = some ws) (hr : rv x' ws = some w) : Rn (mBM ok rv g f) S w S2 := by
  unfold mBM
  refine ev_bind h ?_
  unfold Rn
  dsimp only
  rw [e1]; dsimp only
  rw [if_pos hok]
  exact ev_bind h2 (by unfold Rn; dsimp only; rw [e2, e3]; dsimp only; rw [hr]; rfl)
def ixD (sg : List Str) : D → D
  | .str x => posI sg x
  | d => d
theorem ixD_map {sg : List Str} : ∀ {out : List Str}, (out.map D.str).map (ixD sg) = out.map (posI sg)
  | [] => rfl
  | _ :: _ => congrArg (_ :: ·) ixD_map
def keyD (sg out : List Str) (x : Str) : D := .tup [.lst (out.map (posI sg)), .str x]
def alph (sg : List Str) : D := .obj "Alphabet" [("row", .tup (sg.map .str)), ("table", .dct (tabOf 0 sg))]
theorem ev_meth {c m : Str} {F : Fn} {g : M Opd} {f : M (List Opd)} {o : Opd} {w v : W} {os : List Opd} {ws ws' : List W} {S4 : Sl} (h : Rn g S o S1) (e : o.get S1 = some w) (hi : w.inst c m = true) (h2 : Rn f S1 os S2) (t : takeL (o :: os) S2 = some (ws, S3)) (eF : F ws = some (.ok v, ws')) (gv : giveL (o :: os) ws' S3 = some S4) : Rn (mMethF c m F g f) S v S4 := by
  unfold mMethF
  refine ev_bind h ?_
  unfold Rn
  dsimp only
  rw [e]; dsimp only
  rw [if_pos hi]
  exact ev_callF (ev_bind h2 ev_pure) t eF gv
theorem ix_tab {sg : List Str} {x : Str} (hm : mem sg x = true) : rvIx (.fr (.dct (tabOf 0 sg))) (.fr (.str x)) = some (.fr (posI sg x)) := by
  have : rvIx (.fr (.dct (tabOf 0 sg))) (.fr (.str x)) = (lookD (tabOf 0 sg) (.inr x)).map .fr := rfl
  rw [this, look_tab]
  unfold mem at hm
  unfold posI
  cases e : pos x sg with
  | none => rw [e] at hm; exact nomatch hm
  | some p => simp
theorem all_true {ws : List W} (h : ∀ w ∈ ws, w = .fr (.bl true)) : rvAll [.lst ws] = some (.fr (.bl true)) := by
  have e : frL ws = some (ws.map fun _ => D.bl true) := by
    induction ws with
    | nil => rfl
    | cons w ws ih =>
      have e1 := h w (List.mem_cons_self ..)
      subst e1
      show (frL ws).map _ = _
      rw [ih fun x hx => h x (List.mem_cons_of_mem _ hx)]; rfl
  have e2 : bls (ws.map fun _ => D.bl true) = some (ws.map fun _ => true) := by
    clear e h
    induction ws with
    | nil => rfl
    | cons w ws ih => show (bls (ws.map fun _ => D.bl true)).map _ = _; rw [ih]; rfl
  show ((frL ws).bind bls).map _ = _
  rw [e]
  show (bls _).map _ = _
  rw [e2]
  have : (ws.map fun _ => true).all id = true := by simp
  show some (W.fr (.bl ((ws.map fun _ => true).all id))) = _
  rw [this]
theorem ev_andV {f g : M W} {S S1 S2 : Sl} {w : W} (h : Rn f S (.fr (.bl true)) S1) (q : Rn g S1 w S2) : Rn (mAndV f g) S w S2 := ev_bind h q
theorem le_ii {i j : Int} : rvLe (.fr (.int i)) (.fr (.int j)) = some (.fr (.bl (decide (i ≤ j)))) := rfl
def okC (c : Nat) : Bool := decide (c = 97 ∨ c = 98 ∨ c = 99 ∨ c = 100 ∨ c = 45 ∨ c = 39)
theorem okC_in {c : Nat} (h : okC c = true) : rvIn (.fr (.str (sx [c]))) (.fr (.str "abcdefghijklmnopqrstuvwxyz-'")) = some (.fr (.bl true)) := by
  rcases of_decide_eq_true h with rfl | rfl | rfl | rfl | rfl | rfl <;> rfl
theorem ev_chainT {rv rv' : W → W → Option W} {f g h : M Opd} {a b c : Opd} {x y y' z w : W} {S3 : Sl} (hf : Rn f S a S1) (hg : Rn g S1 b S2) (e1 : a.get S2 = some x) (e2 : b.get S2 = some y) (e3 : rv x y = some (.fr (.bl true))) (hh : Rn h S2 c S3) (e4 : b.get S3 = some y') (e5 : c.get S3 = some z) (e6 : rv' y' z = some w) : Rn (mChain rv rv' f g h) S w S3 := by
  unfold mChain
  refine ev_bind hf (ev_bind hg ?_)
  unfold Rn
  dsimp only
  rw [e1, e2]; dsimp only
  rw [e3]; dsimp only
  exact ev_bind hh (by unfold Rn; dsimp only; rw [e4, e5]; dsimp only; rw [e6]; rfl)
theorem isword_ok {l : List Nat} (h1 : 1 ≤ l.length) (h2 : l.length ≤ 12) (hc : ∀ c ∈ l, okC c = true) : F_is_word [.fr (.str (sx l))] = some (.ok (.fr (.bl true)), [.fr (.str (sx l))]) := by
  have hz : l.length ≤ sizeLine := by rw [sizeLine_eq]; omega
  have hcm : mCompL [1] (bName 1) (pureM true) (mOp2 rvIn (mSlot 1) (mTmp (mOp2 rvAdd (mTmp (pureM (.fr (.str "abcdefghijklmnopqrstuvwxyz")))) (mTmp (pureM (.fr (.str "-'"))))))) (l.map fun c => D.str (sx [c])) [some (.fr (.str (sx l))), none] = some (((l.map fun c => D.str (sx [c])).map fun _ => D.bl true).map .fr, [some (.fr (.str (sx l))), none]) := by
    refine compL_map fun d hd => ?_
    obtain ⟨c, hc', rfl⟩ := List.mem_map.mp hd
    refine ⟨[some (.fr (.str (sx l))), some (.fr (.str (sx [c])))], [some (.fr (.str (sx l))), some (.fr (.str (sx [c])))], rfl, ?_, rfl⟩
    exact ev_op2 (ev_slot rfl) (ev_tmp (ev_op2 (w := .fr (.str "abcdefghijklmnopqrstuvwxyz-'")) (ev_tmp ev_pure) (ev_tmp ev_pure) rfl rfl rfl)) rfl rfl (okC_in (hc c hc'))
  have hcc : Rn (c_is_word_0) [some (.fr (.str (sx l))), none] (.lst (((l.map fun c => D.str (sx [c])).map fun _ => D.bl true).map .fr)) [some (.fr (.str (sx l))), none] :=
    ev_comp (S1 := [some (.fr (.str (sx l))), none]) (S2 := [some (.fr (.str (sx l))), none]) (ds := l.map fun c => D.str (sx [c])) (ev_items (ev_varS (d := .str (sx l)) rfl) rfl) (by rw [List.length_map]; exact hz) hcm
  refine mkF_ev (S := [some (.fr (.str (sx l))), none]) rfl (rns_ret (ev_andV (S1 := [some (.fr (.str (sx l))), none]) (ev_op1 (x := .fr (.str (sx l))) (ev_slot rfl) rfl rfl) (ev_andV (S1 := [some (.fr (.str (sx l))), none]) ?_ ?_))) rfl
  · refine ev_chainT (S2 := [some (.fr (.str (sx l))), none]) (y := .fr (.int (l.length : Nat))) (y' := .fr (.int (l.length : Nat))) (x := .fr (.int 1)) (z := .fr (.int 12)) (ev_tmp ev_pure) (ev_tmp (ev_call (ws := [.fr (.str (sx l))]) (ev_cons (ev_slot rfl) ev_nil) rfl (len_sx hz))) rfl rfl ?_ (ev_tmp ev_pure) rfl rfl ?_
    · rw [le_ii, decide_eq_true (by omega)]
    · rw [le_ii, decide_eq_true (by omega)]
  · refine ev_call (ev_cons (ev_tmp hcc) ev_nil) rfl (all_true fun w hw => ?_)
    obtain ⟨d, hd, rfl⟩ := List.mem_map.mp hw
    obtain ⟨_, _, rfl⟩ := List.mem_map.mp hd
    rfl
structure Rd (sg : List Str) (l : List Nat) (o : Str) (out : List Str) : Prop where
  h1 : 1 ≤ l.length
  h2 : l.length ≤ 12
  hc : ∀ c ∈ l, okC c = true
  hr : readL (mem sg) l = some (o :: out)
section
variable {sg : List Str} {o o' : Str} {out out' : List Str} {l l' : List Nat}
theorem has_ok (hmem : ∀ x, mem sg x = true → PyData.strOk x = true) (h : Rd sg l o out) : F_Alphabet_d_has [.fr (alph sg), .fr (.str (sx l))] = some (.ok (.fr (.bl true)), [.fr (alph sg), .fr (.str (sx l))]) := by
  have hr := taken_ok (se := alph sg) (tb := .fr (.dct (tabOf 0 sg))) rfl mem_tab hmem (l := l) (by have := h.h2; omega)
  rw [h.hr] at hr
  refine mkF_ev (S := [some (.fr (alph sg)), some (.fr (.str (sx l)))]) rfl (rns_ret (ev_andV (S1 := [some (.fr (alph sg)), some (.fr (.str (sx l)))]) ?_ ?_)) rfl
  · exact ev_callF (S1 := [some (.fr (alph sg)), some (.fr (.str (sx l)))]) (ev_cons (ev_tmp (ev_varS (d := .str (sx l)) rfl)) ev_nil) rfl (isword_ok h.h1 h.h2 h.hc) rfl
  · exact ev_op2 (ev_tmp (ev_meth (S1 := [some (.fr (alph sg)), some (.fr (.str (sx l)))]) (ev_slot rfl) rfl rfl (ev_cons (ev_tmp (ev_varS (d := .str (sx l)) rfl)) ev_nil) rfl hr rfl)) (ev_tmp ev_pure) rfl rfl rfl
theorem need_ok (hmem : ∀ x, mem sg x = true → PyData.strOk x = true) (h : Rd sg l o out) : F_Alphabet_d_need [.fr (alph sg), .fr (.str (sx l))] = some (.ok (.fr .non), [.fr (alph sg), .fr (.str (sx l))]) := by
  refine mkF_nx (S := [some (.fr (alph sg)), some (.fr (.str (sx l)))]) rfl (rns_if (t := false) ?_ (fun h => nomatch h) fun _ => rfl) rfl
  exact ev_bind (ev_test (ev_meth (S1 := [some (.fr (alph sg)), some (.fr (.str (sx l)))]) (ev_slot rfl) rfl rfl (ev_cons (ev_tmp (ev_varS (d := .str (sx l)) rfl)) ev_nil) rfl (has_ok hmem h) rfl)) rfl
end
/-! ### the order of keys -/
def posP (sg : List Str) (x : Str) : PyData := .int (((pos x sg).getD 0 : Nat) : Int)
def keyP (sg out : List Str) (x : Str) : PyData := .tuple [.list (out.map (posP sg)), .str x]
theorem pyL_pos {sg : List Str} : ∀ {out : List Str}, pyL (out.map (posI sg)) = some (out.map (posP sg))
  | [] => by simp [pyL]
  | x :: xs => by
    have := pyL_pos (sg := sg) (out := xs)
    simp [pyL, this, D.py, posI, posP]
theorem key_py {sg out : List Str} {x : Str} : D.py (keyD sg out x) = some (keyP sg out x) := by
  have h1 : D.py (.lst (out.map (posI sg))) = some (.list (out.map (posP sg))) := by
    show (pyL _).map PyData.list = _
    rw [pyL_pos]; rfl
  show (pyL [.lst (out.map (posI sg)), .str x]).map PyData.tuple = _
  have h2 : pyL [.lst (out.map (posI sg)), .str x] = some [.list (out.map (posP sg)), .str x] := by
    simp only [pyL, h1]; rfl
  rw [h2]; rfl
theorem alike_pos {sg : List Str} : ∀ {xs ys : List Str}, W.alikeAll (xs.map (posP sg)) (ys.map (posP sg)) = true
  | [], _ => by simp [W.alikeAll]
  | _ :: _, [] => by simp [W.alikeAll]
  | x :: xs, y :: ys => by
    have := alike_pos (sg := sg) (xs := xs) (ys := ys)
    simp only [List.map_cons, W.alikeAll, this, Bool.and_true]
    simp only [posP, W.alike]
theorem alike_key {sg o o' : List Str} {x y : Str} : W.alike (keyP sg o x) (keyP sg o' y) = true := by
  simp only [keyP, W.alike, W.alikeAll, alike_pos, Bool.and_true]
theorem depth_pos {sg : List Str} : ∀ {xs : List Str}, PyData.depthAll (xs.map (posP sg)) = 0
  | [] => rfl
  | x :: xs => by
    show max 0 (PyData.depthAll (xs.map (posP sg))) = 0
    rw [depth_pos]; rfl
theorem depth_key {sg o : List Str} {x : Str} : PyData.depth (keyP sg o x) = 2 := by
  show max (PyData.depthAll (o.map (posP sg)) + 1) _ + 1 = 2
  rw [depth_pos]; rfl
theorem key_lt {sg o o' : List Str} {x y : Str} : rvLtU (.fr (keyD sg o x)) (.fr (keyD sg o' y)) = some (.fr (.bl (W.dataLt (keyP sg o x) (keyP sg o' y)))) := by
  have h : rvLtU (.fr (keyD sg o x)) (.fr (keyD sg o' y)) = (ltD (keyD sg o x) (keyD sg o' y)).map fun b => .fr (.bl b) := rfl
  rw [h]
  unfold ltD
  rw [key_py, key_py]
  dsimp only
  rw [alike_key, depth_key, depth_key]
  rfl
theorem toks_inj {sg o o' : List Str} {x y : Str} (h : W.keyToks (keyP sg o x) = W.keyToks (keyP sg o' y)) : x = y := by
  simp only [keyP, W.keyToks, W.keyToksAll] at h
  have h2 := congrArg List.reverse h
  simp at h2
  have h3 := h2.1
  cases x; cases y
  simpa using h3
theorem key_tri {sg o o' : List Str} {x y : Str} (h : x ≠ y) : W.dataLt (keyP sg o x) (keyP sg o' y) = true ∨ W.dataLt (keyP sg o' y) (keyP sg o x) = true := by
  cases e : W.dataLt (keyP sg o x) (keyP sg o' y)
  · cases e2 : W.dataLt (keyP sg o' y) (keyP sg o x)
    · exact absurd (toks_inj (lex_total _ _ e e2)) h
    · exact .inr rfl
  · exact .inl rfl
theorem key_trans {a b c : PyData} (h1 : W.dataLt a b = true) (h2 : W.dataLt b c = true) : W.dataLt a c = true := lex_trans _ _ _ h1 h2
theorem key_asym {a b : PyData} (h1 : W.dataLt a b = true) : W.dataLt b a = false := by
  cases e : W.dataLt b a with
  | false => rfl
  | true =>
    have h0 : W.dataLt a a = false := lex_irrefl _
    have h2 := key_trans h1 e
    rw [h0] at h2
    exact nomatch h2
/-! ### readable words -/
theorem readL_some {sg : List Str} (h : ∀ c, okC c = true → quiet c = false → mem sg (sx [c]) = true) : ∀ {l : List Nat}, (∀ c ∈ l, okC c = true) → ∃ out, readL (mem sg) l = some out ∧ ((∃ c ∈ l, quiet c = false) → out ≠ [])
  | [], _ => ⟨[], by simp [readL], fun ⟨_, hc, _⟩ => nomatch hc⟩
  | [c], hc => by
    cases q : quiet c with
    | true =>
      refine ⟨[], by simp [readL, q], fun ⟨c', hc', hq⟩ => ?_⟩
      rcases List.mem_singleton.mp hc' with rfl
      rw [q] at hq; exact nomatch hq
    | false =>
      have h1 := h c (hc c (List.mem_cons_self ..)) q
      exact ⟨[sx [c]], by simp [readL, q, h1], fun _ e => nomatch e⟩
  | c :: d :: r, hc => by
    have hc2 : ∀ x ∈ d :: r, okC x = true := fun x hx => hc x (List.mem_cons_of_mem _ hx)
    have hc3 : ∀ x ∈ r, okC x = true := fun x hx => hc2 x (List.mem_cons_of_mem _ hx)
    obtain ⟨o1, e1, n1⟩ := readL_some h hc2
    obtain ⟨o2, e2, _⟩ := readL_some h hc3
    cases q : quiet c with
    | true =>
      refine ⟨o1, by simp [readL, q, e1], fun ⟨c', hc', hq⟩ => ?_⟩
      rcases List.mem_cons.mp hc' with rfl | hm
      · rw [q] at hq; exact nomatch hq
      · exact n1 ⟨c', hm, hq⟩
    | false =>
      cases q2 : mem sg (sx [c, d]) with
      | true => exact ⟨sx [c, d] :: o2, by simp [readL, q, q2, e2], fun _ e => nomatch e⟩
      | false =>
        have h1 := h c (hc c (List.mem_cons_self ..)) q
        exact ⟨sx [c] :: o1, by simp [readL, q, q2, h1, e1], fun _ e => nomatch e⟩
/-- the letters a law's turn has -/
structure Sg (sg : List Str) : Prop where
  hs : ∀ x ∈ sg, PyData.strOk x = true
  hmem : ∀ x, mem sg x = true → PyData.strOk x = true
  ho : ∀ c, okC c = true → quiet c = false → mem sg (sx [c]) = true
  hm : MemR (.fr (.lst (sg.map .str))) (mem sg)
structure Wd (l : List Nat) : Prop where
  h1 : l.length ≤ 12
  hc : ∀ c ∈ l, okC c = true
  hq : ∃ c ∈ l, quiet c = false
theorem Wd.rd {l : List Nat} {sg : List Str} (w : Wd l) (g : Sg sg) : ∃ o out, Rd sg l o out := by
  obtain ⟨out, e, n⟩ := readL_some g.ho w.hc
  cases out with
  | nil => exact absurd rfl (n w.hq)
  | cons o out =>
    refine ⟨o, out, ?_, w.h1, w.hc, e⟩
    obtain ⟨c, hc, _⟩ := w.hq
    exact List.length_pos_of_mem hc
theorem Wd.lt {l : List Nat} (w : Wd l) : ∀ c ∈ l, c < 1114112 := by
  intro c hc
  rcases of_decide_eq_true (w.hc c hc) with rfl | rfl | rfl | rfl | rfl | rfl <;> omega
theorem Wd.ok {l : List Nat} (w : Wd l) : PyData.strOk (sx l) = true := by
  show l.toArray.all (fun c => decide (c < 0x110000)) = true
  rw [List.all_toArray, List.all_eq_true]
  intro c hc
  refine decide_eq_true ?_
  rcases of_decide_eq_true (w.hc c hc) with rfl | rfl | rfl | rfl | rfl | rfl <;> omega
theorem ne_bl {t u : Bool} : rvNe (.fr (.bl t)) (.fr (.bl u)) = some (.fr (.bl (t != u))) := by cases t <;> cases u <;> rfl
theorem ne_str {x y : Str} (hx : PyData.strOk x = true) (hy : PyData.strOk y = true) : rvNe (.fr (.str x)) (.fr (.str y)) = some (.fr (.bl (!(x == y)))) := by
  refine rvNe_ok ?_
  show eqD (.str x) (.str y) = some (x == y)
  unfold eqD
  rw [show D.py (.str x) = some (.str x) from rfl, show D.py (.str y) = some (.str y) from rfl]
  dsimp only
  rw [shaped_str hx, shaped_str hy]
  rfl
theorem ev_orV {f g : M W} {S : Sl} {t u : Bool} (h : Rn f S (.fr (.bl t)) S) (q : Rn g S (.fr (.bl u)) S) : Rn (mOrV f g) S (.fr (.bl (t || u))) S := by
  cases t
  · exact ev_bind h q
  · exact ev_bind h rfl
section
variable {sg : List Str} {l l' : List Nat}
def kOf (sg : List Str) (l : List Nat) : PyData := keyP sg ((readL (mem sg) l).getD []) (sx l)
def kLt (sg : List Str) (l l' : List Nat) : Bool := W.dataLt (kOf sg l) (kOf sg l')
theorem kLt_ne (g : Sg sg) : (!(sx l == sx l')) = (kLt sg l l' || kLt sg l' l) := by
  by_cases e : sx l = sx l'
  · have : (sx l == sx l') = true := by simpa using e
    rw [this]
    have e2 : l = l' := by simpa using e
    subst e2
    have h0 : kLt sg l l = false := lex_irrefl _
    rw [h0]; rfl
  · have : (sx l == sx l') = false := by simpa using e
    rw [this]
    rcases key_tri (sg := sg) (o := (readL (mem sg) l).getD []) (o' := (readL (mem sg) l').getD []) e with h | h
    · have : kLt sg l l' = true := h
      rw [this]; rfl
    · have : kLt sg l' l = true := h
      rw [this, Bool.or_true]; rfl
theorem kLt_asym : (kLt sg l l' && kLt sg l' l) = false := by
  cases e : kLt sg l l' with
  | false => rfl
  | true => rw [show kLt sg l' l = false from key_asym e]; rfl
end
/-! ### the law's loops -/
section
variable {sg : List Str} {wl : List (List Nat)}
abbrev wlD (wl : List (List Nat)) : List D := wl.map fun l => .str (sx l)
abbrev LS (s0 s1 : Option W) (sg : List Str) (wl : List (List Nat)) (s5 s6 s7 s8 s9 : Option W) : Sl := [s0, s1, some (.fr (.lst (sg.map .str))), some (.fr (alph sg)), some (.fr (.lst (wlD wl))), s5, s6, s7, s8, s9]
/-- the last test -/
theorem last_lt (g : Sg sg) (hx : ∀ c d : Nat, mem sg (sx [c, d]) = false) : kLt sg [97] [97, 98] = true ∧ kLt sg [100, 97, 98] [100, 97, 98, 98] = true := by
  have ha := g.ho 97 rfl rfl
  have hb := g.ho 98 rfl rfl
  have hd := g.ho 100 rfl rfl
  have qa : quiet 97 = false := rfl
  have qb : quiet 98 = false := rfl
  have qd : quiet 100 = false := rfl
  refine ⟨?_, ?_⟩
  · unfold kLt kOf
    simp only [readL, qa, qb, qd, hx, ha, hb, hd, keyP, W.dataLt, W.keyToks, W.keyToksAll, posP, List.map_cons, List.map_nil, Option.map_some, Option.getD_some, List.cons_append, List.nil_append, if_true, Bool.false_eq_true, if_false]
    rw [lex_self, lex_self, lex_self]
    rfl
  · unfold kLt kOf
    simp only [readL, qa, qb, qd, hx, ha, hb, hd, keyP, W.dataLt, W.keyToks, W.keyToksAll, posP, List.map_cons, List.map_nil, Option.map_some, Option.getD_some, List.cons_append, List.nil_append, if_true, Bool.false_eq_true, if_false]
    rw [lex_self, lex_self, lex_self, lex_self, lex_self, lex_self, lex_self]
    rfl
end
section
variable {sg : List Str} {wl : List (List Nat)}
theorem w1 : Wd [97] := ⟨by decide, by decide, 97, by decide, rfl⟩
theorem w2 : Wd [97, 98] := ⟨by decide, by decide, 97, by decide, rfl⟩
theorem w3 : Wd [100, 97, 98] := ⟨by decide, by decide, 97, by decide, rfl⟩
theorem w4 : Wd [100, 97, 98, 98] := ⟨by decide, by decide, 97, by decide, rfl⟩
theorem notin_of {x : Str} {o : W} {b : Bool} (h : rvIn (.fr (.str x)) o = some (.fr (.bl b))) : rvNotIn (.fr (.str x)) o = some (.fr (.bl (!b))) := by
  unfold rvIn at h
  obtain ⟨c, e, h2⟩ := Option.map_eq_some_iff.mp h
  unfold rvNotIn
  rw [e]
  injection h2 with h3
  injection h3 with h4
  rw [h4]; rfl
end
/-! ### a new alphabet -/
def allL : List Str := ["a", "b", "c", "d", "ab", "cc", "da", "bb", "ca"]
theorem all_cases {p : Str → Prop} (h0 : p "a") (h1 : p "b") (h2 : p "c") (h3 : p "d") (h4 : p "ab") (h5 : p "cc") (h6 : p "da") (h7 : p "bb") (h8 : p "ca") : ∀ x ∈ allL, p x := by
  intro x hx
  unfold allL at hx
  simp only [List.mem_cons, List.not_mem_nil, or_false] at hx
  rcases hx with rfl | rfl | rfl | rfl | rfl | rfl | rfl | rfl | rfl <;> assumption
theorem small_ok : ∀ x ∈ allL, F_is_small [.fr (.str x), .fr (.int 1), .fr (.int 2)] = some (.ok (.fr (.bl true)), [.fr (.str x), .fr (.int 1), .fr (.int 2)]) := by
  apply all_cases <;> kernel_rfl
theorem all_ok : ∀ x ∈ allL, PyData.strOk x = true := by
  apply all_cases <;> kernel_rfl
theorem dcomp_tab {S : Sl} {a b : W} : ∀ {sg : List Str} {i : Nat} {acc : List (Key × D)}, sg.Nodup → (∀ x ∈ sg, (acc.any fun kv => decide (kv.1 = .inr x)) = false) →
    mDCompL [2, 3] (bTup 2 (bCons (bName 2) (bCons (bName 3) (bNil)))) (pureM true) (mVar 3) (mVar 2) (enumD i (sg.map .str)) acc [some a, some b, none, none] = some (acc ++ tabOf i sg, [some a, some b, none, none])
  | [], i, acc, _, _ => by
    show some _ = some _
    rw [show tabOf i [] = [] from rfl, List.append_nil]
  | x :: r, i, acc, hn, ha => by
    obtain ⟨h1, h2⟩ := List.nodup_cons.mp hn
    have e : putDD acc (.inr x) (.int (i : Nat)) = acc ++ [(.inr x, .int (i : Nat))] := by
      unfold putDD
      rw [if_neg (by rw [ha x (List.mem_cons_self ..)]; decide)]
    have ih := dcomp_tab (S := S) (a := a) (b := b) (sg := r) (i := i + 1) (acc := acc ++ [(.inr x, .int (i : Nat))]) h2 (fun y hy => by
      rw [List.any_append, ha y (List.mem_cons_of_mem _ hy)]
      have : ¬ (Sum.inr x : Key) = .inr y := fun z => by
        injection z with z
        exact h1 (z ▸ hy)
      simp [this])
    show mDCompL _ _ _ _ _ _ (putDD acc (.inr x) (.int (i : Nat))) [some a, some b, none, none] = _
    rw [e, ih]
    show some _ = some _
    rw [List.append_assoc]; rfl
theorem keysD_strs : ∀ {sg : List Str}, keysD (sg.map D.str) = some (sg.map Sum.inr)
  | [] => rfl
  | x :: r => by
    have := keysD_strs (sg := r)
    unfold keysD
    show (match D.key (.str x), keysD (r.map D.str) with
      | some k, some ks => some (k :: ks)
      | _, _ => none) = _
    rw [this]; rfl
theorem distK_len : ∀ {sg : List Str} {acc : List Key}, sg.Nodup → (∀ x ∈ sg, (Sum.inr x : Key) ∉ acc) → (distK acc (sg.map Sum.inr)).length = acc.length + sg.length
  | [], _, _, _ => rfl
  | x :: r, acc, hn, ha => by
    obtain ⟨h1, h2⟩ := List.nodup_cons.mp hn
    have e : VD.putK acc (.inr x) = acc ++ [.inr x] := by
      have := ha x (List.mem_cons_self ..)
      have hk : hasK acc (.inr x) = false := by
        unfold hasK
        rw [List.any_eq_false]
        intro j hj hh
        exact this (of_decide_eq_true hh ▸ hj)
      show (if hasK acc (.inr x) = true then acc else acc ++ [.inr x]) = _
      rw [if_neg (by rw [hk]; decide)]
    show (distK (VD.putK acc (.inr x)) (r.map Sum.inr)).length = _
    rw [e, distK_len h2 (fun y hy hm => by
      rcases List.mem_append.mp hm with h | h
      · exact ha y (List.mem_cons_of_mem _ hy) h
      · have := List.mem_singleton.mp h
        injection this with z
        exact h1 (z ▸ hy))]
    simp; omega
theorem toDK_frD : ∀ {kvs : List (Key × D)}, toDK (frD kvs) = kvs
  | [] => rfl
  | (k, d) :: r => by
    have := toDK_frD (kvs := r)
    show (k, W.toD (.fr d)) :: toDK (frD r) = _
    rw [this]; rfl
theorem toD_frD {kvs : List (Key × D)} : W.toD (.dct (frD kvs)) = .dct kvs := by
  show D.dct (toDK (frD kvs)) = _
  rw [toDK_frD]
theorem ev_or {f g : M Bool} {t : Bool} {S S1 S2 : Sl} (h : Rn f S false S1) (q : Rn g S1 t S2) : Rn (mOr f g) S t S2 := ev_bind h q
abbrev objA (sg : List Str) : W := .obj "Alphabet" [("row", .fr (.tup (sg.map .str))), ("table", .fr (.dct (tabOf 0 sg)))]
theorem init_lst {sg : List Str} (hs : ∀ x ∈ sg, x ∈ allL) (hn : sg.Nodup) (h1 : 1 ≤ sg.length) (h2 : sg.length ≤ 30) : F_Alphabet_d___init__ [.obj "Alphabet" [], .fr (.lst (sg.map .str))] = some (.ok (.fr .non), [objA sg, .fr (.lst (sg.map .str))]) ∧ (objA sg).toD = alph sg := by
  refine ⟨?_, ?_⟩
  · have hz : (sg.map D.str).length ≤ sizeLine := by rw [List.length_map, sizeLine_eq]; omega
    have hlen : ∀ o : W, Rn (mCall rvLenS (mCons (mSlot 1) (mNil))) [some o, some (.fr (.lst (sg.map .str))), none, none] (.fr (.int (sg.length : Nat))) [some o, some (.fr (.lst (sg.map .str))), none, none] := fun o =>
      ev_call (ws := [.fr (.lst (sg.map .str))]) (ev_cons (ev_slot rfl) ev_nil) rfl (by
        show some (W.fr (.int ((sg.map D.str).length : Nat))) = _
        rw [List.length_map])
    have hcm : mCompL [3] (bName 3) (pureM true) (mCallF F_is_small (mCons (mTmp (mVar 3)) (mCons (mTmp (pureM (.fr (.int 1)))) (mCons (mTmp (pureM (.fr (.int 2)))) (mNil))))) (sg.map D.str) [some (.obj "Alphabet" []), some (.fr (.lst (sg.map .str))), none, none] = some (((sg.map D.str).map fun _ => D.bl true).map .fr, [some (.obj "Alphabet" []), some (.fr (.lst (sg.map .str))), none, none]) := by
      refine compL_map fun d hd => ?_
      obtain ⟨x, hx, rfl⟩ := List.mem_map.mp hd
      refine ⟨[some (.obj "Alphabet" []), some (.fr (.lst (sg.map .str))), none, some (.fr (.str x))], [some (.obj "Alphabet" []), some (.fr (.lst (sg.map .str))), none, some (.fr (.str x))], rfl, ?_, rfl⟩
      exact ev_callF (ev_cons (ev_tmp (ev_varS (d := .str x) rfl)) (ev_cons (ev_tmp ev_pure) (ev_cons (ev_tmp ev_pure) ev_nil))) rfl (small_ok x (hs x hx)) rfl
    have hcc : Rn (c_Alphabet_d___init___0) [some (.obj "Alphabet" []), some (.fr (.lst (sg.map .str))), none, none] (.lst (((sg.map D.str).map fun _ => D.bl true).map .fr)) [some (.obj "Alphabet" []), some (.fr (.lst (sg.map .str))), none, none] :=
      ev_comp (S1 := [some (.obj "Alphabet" []), some (.fr (.lst (sg.map .str))), none, none]) (S2 := [some (.obj "Alphabet" []), some (.fr (.lst (sg.map .str))), none, none]) (ds := sg.map D.str) (ev_items (ev_varS (d := .lst (sg.map .str)) rfl) rfl) hz hcm
    refine mkF_nx (S := [some (.obj "Alphabet" [("row", .fr (.tup (sg.map .str))), ("table", .fr (.dct (tabOf 0 sg)))]), some (.fr (.lst (sg.map .str))), none, none]) rfl (rns_seq (S1 := [some (.obj "Alphabet" []), some (.fr (.lst (sg.map .str))), none, none]) ?_ (rns_seq (S1 := [some (.obj "Alphabet" []), some (.fr (.lst (sg.map .str))), none, none]) ?_ (rns_seq (S1 := [some (.obj "Alphabet" [("row", .fr (.tup (sg.map .str)))]), some (.fr (.lst (sg.map .str))), none, none]) ?_ ?_))) rfl
    · refine rns_if (t := false) (ev_or (S1 := [some (.obj "Alphabet" []), some (.fr (.lst (sg.map .str))), none, none]) (ev_bind (ev_test (ev_op1 (w := .fr (.bl true)) (ev_slot rfl) rfl rfl)) rfl) (ev_bind (u := true) (ev_test ?_) rfl)) (fun h => nomatch h) fun _ => rfl
      refine ev_chainT (S2 := [some (.obj "Alphabet" []), some (.fr (.lst (sg.map .str))), none, none]) (y := .fr (.int (sg.length : Nat))) (y' := .fr (.int (sg.length : Nat))) (x := .fr (.int 1)) (z := .fr (.int 30)) (ev_tmp ev_pure) (ev_tmp (hlen _)) rfl rfl ?_ (ev_tmp ev_pure) rfl rfl ?_
      · rw [le_ii, decide_eq_true (by omega)]
      · rw [le_ii, decide_eq_true (by omega)]
    · refine rns_if (t := false) (ev_or (S1 := [some (.obj "Alphabet" []), some (.fr (.lst (sg.map .str))), none, none]) (ev_bind (u := true) (ev_test (ev_call (ev_cons (ev_tmp hcc) ev_nil) rfl (all_true fun w hw => ?_))) rfl) (ev_test (ev_op2 (x := .fr (.int (sg.length : Nat))) (y := .fr (.int (sg.length : Nat))) (S1 := [some (.obj "Alphabet" []), some (.fr (.lst (sg.map .str))), none, none]) (ev_tmp ?_) (ev_tmp (hlen _)) rfl rfl ?_))) (fun h => nomatch h) fun _ => rfl
      · obtain ⟨d, hd, rfl⟩ := List.mem_map.mp hw
        obtain ⟨_, _, rfl⟩ := List.mem_map.mp hd
        rfl
      · unfold mLenSetOfA
        refine ev_bind (ev_slot rfl) ?_
        show (match keysD (sg.map D.str) with
          | some ks => if ks.length < 4000 then some (Res.ok (W.fr (.int ((distK [] ks).length : Nat))), _) else none
          | none => none) = _
        rw [keysD_strs]
        dsimp only
        rw [if_pos (by rw [List.length_map]; omega), distK_len hn (fun _ _ => List.not_mem_nil)]
        simp
      · rw [lt_ii, decide_eq_false (by omega)]
    · exact rns_bind (ev_set (w := .fr (.tup (sg.map .str))) (ev_call (ws := [.fr (.lst (sg.map .str))]) (ev_cons (ev_slot rfl) ev_nil) rfl rfl)) rfl
    · have hd := dcomp_tab (S := []) (a := .obj "Alphabet" [("row", .fr (.tup (sg.map .str)))]) (b := .fr (.lst (sg.map .str))) (sg := sg) (i := 0) (acc := []) hn (fun _ _ => rfl)
      rw [List.nil_append] at hd
      have hdc : Rn (c_Alphabet_d___init___1) [some (.obj "Alphabet" [("row", .fr (.tup (sg.map .str)))]), some (.fr (.lst (sg.map .str))), none, none] (.dct (frD (tabOf 0 sg))) [some (.obj "Alphabet" [("row", .fr (.tup (sg.map .str)))]), some (.fr (.lst (sg.map .str))), none, none] := by
        refine ev_bind (u := enumD 0 (sg.map D.str)) (S1 := [some (.obj "Alphabet" [("row", .fr (.tup (sg.map .str)))]), some (.fr (.lst (sg.map .str))), none, none]) (ev_bind (ev_varS (d := .lst (sg.map .str)) rfl) rfl) ?_
        show (if (enumD 0 (sg.map D.str)).length < sizeLine then _ else none) = _
        rw [if_pos (by rw [enumD_len, List.length_map, sizeLine_eq]; omega)]
        show (mDCompL _ _ _ _ _ _ _ [some (.obj "Alphabet" [("row", .fr (.tup (sg.map .str)))]), some (.fr (.lst (sg.map .str))), none, none]).map _ = _
        rw [hd]; rfl
      refine rns_bind (ev_set hdc) ?_
      rw [toD_frD]; rfl
  · rfl
theorem init_tup {sg : List Str} (hs : ∀ x ∈ sg, x ∈ allL) (hn : sg.Nodup) (h1 : 1 ≤ sg.length) (h2 : sg.length ≤ 30) : F_Alphabet_d___init__ [.obj "Alphabet" [], .fr (.tup (sg.map .str))] = some (.ok (.fr .non), [objA sg, .fr (.tup (sg.map .str))]) ∧ (objA sg).toD = alph sg := by
  refine ⟨?_, ?_⟩
  · have hz : (sg.map D.str).length ≤ sizeLine := by rw [List.length_map, sizeLine_eq]; omega
    have hlen : ∀ o : W, Rn (mCall rvLenS (mCons (mSlot 1) (mNil))) [some o, some (.fr (.tup (sg.map .str))), none, none] (.fr (.int (sg.length : Nat))) [some o, some (.fr (.tup (sg.map .str))), none, none] := fun o =>
      ev_call (ws := [.fr (.tup (sg.map .str))]) (ev_cons (ev_slot rfl) ev_nil) rfl (by
        show some (W.fr (.int ((sg.map D.str).length : Nat))) = _
        rw [List.length_map])
    have hcm : mCompL [3] (bName 3) (pureM true) (mCallF F_is_small (mCons (mTmp (mVar 3)) (mCons (mTmp (pureM (.fr (.int 1)))) (mCons (mTmp (pureM (.fr (.int 2)))) (mNil))))) (sg.map D.str) [some (.obj "Alphabet" []), some (.fr (.tup (sg.map .str))), none, none] = some (((sg.map D.str).map fun _ => D.bl true).map .fr, [some (.obj "Alphabet" []), some (.fr (.tup (sg.map .str))), none, none]) := by
      refine compL_map fun d hd => ?_
      obtain ⟨x, hx, rfl⟩ := List.mem_map.mp hd
      refine ⟨[some (.obj "Alphabet" []), some (.fr (.tup (sg.map .str))), none, some (.fr (.str x))], [some (.obj "Alphabet" []), some (.fr (.tup (sg.map .str))), none, some (.fr (.str x))], rfl, ?_, rfl⟩
      exact ev_callF (ev_cons (ev_tmp (ev_varS (d := .str x) rfl)) (ev_cons (ev_tmp ev_pure) (ev_cons (ev_tmp ev_pure) ev_nil))) rfl (small_ok x (hs x hx)) rfl
    have hcc : Rn (c_Alphabet_d___init___0) [some (.obj "Alphabet" []), some (.fr (.tup (sg.map .str))), none, none] (.lst (((sg.map D.str).map fun _ => D.bl true).map .fr)) [some (.obj "Alphabet" []), some (.fr (.tup (sg.map .str))), none, none] :=
      ev_comp (S1 := [some (.obj "Alphabet" []), some (.fr (.tup (sg.map .str))), none, none]) (S2 := [some (.obj "Alphabet" []), some (.fr (.tup (sg.map .str))), none, none]) (ds := sg.map D.str) (ev_items (ev_varS (d := .tup (sg.map .str)) rfl) rfl) hz hcm
    refine mkF_nx (S := [some (.obj "Alphabet" [("row", .fr (.tup (sg.map .str))), ("table", .fr (.dct (tabOf 0 sg)))]), some (.fr (.tup (sg.map .str))), none, none]) rfl (rns_seq (S1 := [some (.obj "Alphabet" []), some (.fr (.tup (sg.map .str))), none, none]) ?_ (rns_seq (S1 := [some (.obj "Alphabet" []), some (.fr (.tup (sg.map .str))), none, none]) ?_ (rns_seq (S1 := [some (.obj "Alphabet" [("row", .fr (.tup (sg.map .str)))]), some (.fr (.tup (sg.map .str))), none, none]) ?_ ?_))) rfl
    · refine rns_if (t := false) (ev_or (S1 := [some (.obj "Alphabet" []), some (.fr (.tup (sg.map .str))), none, none]) (ev_bind (ev_test (ev_op1 (w := .fr (.bl true)) (ev_slot rfl) rfl rfl)) rfl) (ev_bind (u := true) (ev_test ?_) rfl)) (fun h => nomatch h) fun _ => rfl
      refine ev_chainT (S2 := [some (.obj "Alphabet" []), some (.fr (.tup (sg.map .str))), none, none]) (y := .fr (.int (sg.length : Nat))) (y' := .fr (.int (sg.length : Nat))) (x := .fr (.int 1)) (z := .fr (.int 30)) (ev_tmp ev_pure) (ev_tmp (hlen _)) rfl rfl ?_ (ev_tmp ev_pure) rfl rfl ?_
      · rw [le_ii, decide_eq_true (by omega)]
      · rw [le_ii, decide_eq_true (by omega)]
    · refine rns_if (t := false) (ev_or (S1 := [some (.obj "Alphabet" []), some (.fr (.tup (sg.map .str))), none, none]) (ev_bind (u := true) (ev_test (ev_call (ev_cons (ev_tmp hcc) ev_nil) rfl (all_true fun w hw => ?_))) rfl) (ev_test (ev_op2 (x := .fr (.int (sg.length : Nat))) (y := .fr (.int (sg.length : Nat))) (S1 := [some (.obj "Alphabet" []), some (.fr (.tup (sg.map .str))), none, none]) (ev_tmp ?_) (ev_tmp (hlen _)) rfl rfl ?_))) (fun h => nomatch h) fun _ => rfl
      · obtain ⟨d, hd, rfl⟩ := List.mem_map.mp hw
        obtain ⟨_, _, rfl⟩ := List.mem_map.mp hd
        rfl
      · unfold mLenSetOfA
        refine ev_bind (ev_slot rfl) ?_
        show (match keysD (sg.map D.str) with
          | some ks => if ks.length < 4000 then some (Res.ok (W.fr (.int ((distK [] ks).length : Nat))), _) else none
          | none => none) = _
        rw [keysD_strs]
        dsimp only
        rw [if_pos (by rw [List.length_map]; omega), distK_len hn (fun _ _ => List.not_mem_nil)]
        simp
      · rw [lt_ii, decide_eq_false (by omega)]
    · exact rns_bind (ev_set (w := .fr (.tup (sg.map .str))) (ev_call (ws := [.fr (.tup (sg.map .str))]) (ev_cons (ev_slot rfl) ev_nil) rfl rfl)) rfl
    · have hd := dcomp_tab (S := []) (a := .obj "Alphabet" [("row", .fr (.tup (sg.map .str)))]) (b := .fr (.tup (sg.map .str))) (sg := sg) (i := 0) (acc := []) hn (fun _ _ => rfl)
      rw [List.nil_append] at hd
      have hdc : Rn (c_Alphabet_d___init___1) [some (.obj "Alphabet" [("row", .fr (.tup (sg.map .str)))]), some (.fr (.tup (sg.map .str))), none, none] (.dct (frD (tabOf 0 sg))) [some (.obj "Alphabet" [("row", .fr (.tup (sg.map .str)))]), some (.fr (.tup (sg.map .str))), none, none] := by
        refine ev_bind (u := enumD 0 (sg.map D.str)) (S1 := [some (.obj "Alphabet" [("row", .fr (.tup (sg.map .str)))]), some (.fr (.tup (sg.map .str))), none, none]) (ev_bind (ev_varS (d := .tup (sg.map .str)) rfl) rfl) ?_
        show (if (enumD 0 (sg.map D.str)).length < sizeLine then _ else none) = _
        rw [if_pos (by rw [enumD_len, List.length_map, sizeLine_eq]; omega)]
        show (mDCompL _ _ _ _ _ _ _ [some (.obj "Alphabet" [("row", .fr (.tup (sg.map .str)))]), some (.fr (.tup (sg.map .str))), none, none]).map _ = _
        rw [hd]; rfl
      refine rns_bind (ev_set hdc) ?_
      rw [toD_frD]; rfl
  · rfl
/-! ### the law's letters -/
theorem roll_eq : F__law_roll = VD.F_roll := by kernel_rfl
theorem len_new {ds : List D} : rvLenS [newL ds] = some (.fr (.int (ds.length : Nat))) := by
  show some (W.fr (.int ((ds.map W.fr).length : Nat))) = _
  rw [List.length_map]
theorem own_new {ds : List D} : (newL ds).ownL = some ds := by
  show frL (ds.map W.fr) = _
  induction ds with
  | nil => rfl
  | cons d ds ih => show (frL (ds.map W.fr)).map (d :: ·) = _; rw [ih]; rfl
theorem ins_turn {ds : List D} (hl : ds.length ≤ 20) (x y : Int) (d : D) : ∃ (x' y' : Int) (k : Nat), RnS b__law_letters_in_0 [some (.lst [.fr (.int x), .fr (.int y)]), some (newL ds), some (.fr d)] .nx [some (.lst [.fr (.int x'), .fr (.int y')]), some (newL (ds.take k ++ [d] ++ ds.drop k)), some (.fr d)] := by
  have h4 : ok400 ((ds.length : Int) + 1) = true := by
    unfold ok400
    refine decide_eq_true ?_
    have : ((ds.length : Int) + 1).natAbs ≤ 21 := by omega
    exact Nat.lt_of_le_of_lt this (by decide)
  have hr := roll_ok x y ((ds.length : Int) + 1) (by omega) h4
  have hb := rollV_lt (x := x) (y := y) (n := (ds.length : Int) + 1) (by omega)
  generalize rollV x y ((ds.length : Int) + 1) = k at hr hb
  generalize rollX x ((ds.length : Int) + 1) = x1 at hr
  generalize rollY x y = y1 at hr
  refine ⟨x1, y1, k.toNat, rns_drop (w := .fr .non) ?_⟩
  have hn : Rn (mTmp (mSet (mOp2 rvAdd (mTmp (mCall rvLenS (mCons (mSlot 1) (mNil)))) (mTmp (pureM (.fr (.int 1))))))) [some (.lst [.fr (.int x), .fr (.int y)]), some (newL ds), some (.fr d)] (.tmp (.fr (.int ((ds.length : Int) + 1)))) [some (.lst [.fr (.int x), .fr (.int y)]), some (newL ds), some (.fr d)] :=
    ev_tmp (ev_set (w := .fr (.int ((ds.length : Int) + 1))) (ev_op2 (x := .fr (.int (ds.length : Nat))) (y := .fr (.int 1)) (ev_tmp (ev_call (ws := [newL ds]) (ev_cons (ev_slot rfl) ev_nil) rfl len_new)) (ev_tmp ev_pure) rfl rfl rfl))
  have ha : Rn (mCons (mTmp (mCallF F__law_roll (mCons (mSlot 0) (mCons (mTmp (mSet (mOp2 rvAdd (mTmp (mCall rvLenS (mCons (mSlot 1) (mNil)))) (mTmp (pureM (.fr (.int 1))))))) (mNil))))) (mCons (mTmp (mVar 2)) (mNil))) [some (.lst [.fr (.int x), .fr (.int y)]), some (newL ds), some (.fr d)] [.tmp (.fr (.int k)), .tmp (.fr d)] [some (.lst [.fr (.int x1), .fr (.int y1)]), some (newL ds), some (.fr d)] :=
    ev_cons (ev_tmp (ev_callF (S1 := [some (.lst [.fr (.int x), .fr (.int y)]), some (newL ds), some (.fr d)]) (ev_cons (ev_slot rfl) (ev_cons hn ev_nil)) rfl (by rw [roll_eq]; exact hr) rfl)) (ev_cons (ev_tmp (ev_varS rfl)) ev_nil)
  unfold mInsert mChk
  show (if hasL 1 _ = true then _ else none) = _
  rw [if_pos (by rfl)]
  refine ev_bind ha ?_
  show (match (newL ds).ownL with
    | some ds' => if ds'.length < sizeLine ∧ 0 ≤ k ∧ k < 2 ^ 63 then some (Res.ok (W.fr .non), _) else none
    | none => none) = _
  rw [own_new]
  dsimp only
  rw [if_pos ⟨by rw [sizeLine_eq]; omega, hb.1, by omega⟩]
  rfl
theorem ins_loop : ∀ {rest : List Str} (acc : List Str) (x y : Int) (s2 : Option W), acc.length + rest.length ≤ 20 → ∃ (sg : List Str) (x' y' : Int) (r2 : Option W), sg.Perm (acc ++ rest) ∧ mForL (bName 2) b__law_letters_in_0 (rest.map .str) [some (.lst [.fr (.int x), .fr (.int y)]), some (newL (acc.map .str)), s2] = some (.nx, [some (.lst [.fr (.int x'), .fr (.int y')]), some (newL (sg.map .str)), r2])
  | [], acc, x, y, s2, _ => ⟨acc, x, y, s2, by rw [List.append_nil], rfl⟩
  | w :: rest, acc, x, y, s2, h => by
    simp only [List.length_cons] at h
    obtain ⟨x1, y1, k, e⟩ := ins_turn (ds := acc.map D.str) (by rw [List.length_map]; omega) x y (.str w)
    have e2 : (acc.map D.str).take k ++ [D.str w] ++ (acc.map D.str).drop k = (acc.take k ++ [w] ++ acc.drop k).map D.str := by simp
    rw [e2] at e
    obtain ⟨sg, x2, y2, r2, hp, e3⟩ := ins_loop (rest := rest) (acc.take k ++ [w] ++ acc.drop k) x1 y1 (some (.fr (.str w))) (by simp; omega)
    refine ⟨sg, x2, y2, r2, hp.trans ?_, ?_⟩
    · have h1 : (acc.take k ++ [w] ++ acc.drop k).Perm (acc ++ [w]) := by
        have := (List.perm_append_comm (l₁ := [w]) (l₂ := acc.drop k)).append_left (acc.take k)
        rw [← List.append_assoc, ← List.append_assoc, List.take_append_drop] at this
        exact this
      have := h1.append_right rest
      simpa using this
    · show mForL _ _ (.str w :: rest.map .str) _ = _
      unfold RnS at e
      unfold mForL
      rw [show bName 2 (.str w) [some (.lst [.fr (.int x), .fr (.int y)]), some (newL (acc.map .str)), s2] = some [some (.lst [.fr (.int x), .fr (.int y)]), some (newL (acc.map .str)), some (.fr (.str w))] from rfl]
      dsimp only
      rw [e]
      exact e3
def baseL : List Str := ["a", "b", "c", "d"]
def exts : List (List Str) := [["ab", "cc"], ["da", "bb", "ca"], []]
def extW : W := .lst [.fr (.lst [.str "ab", .str "cc"]), .fr (.lst [.str "da", .str "bb", .str "ca"]), .fr (.lst [])]
def baseW : W := .lst [.fr (.str "a"), .fr (.str "b"), .fr (.str "c"), .fr (.str "d")]
theorem ext_ev : ∀ k : Int, 0 ≤ k → k < 3 → ∃ ext ∈ exts, ∃ v, rvIx extW (.fr (.int k)) = some (.fr (.lst (ext.map .str))) ∧ rvAdd baseW (.fr (.lst (ext.map .str))) = some v ∧ v.toD.items = some ((baseL ++ ext).map .str) := by
  intro k h1 h2
  have : k = 0 ∨ k = 1 ∨ k = 2 := by omega
  rcases this with rfl | rfl | rfl
  · exact ⟨["ab", "cc"], by simp [exts], _, rfl, rfl, rfl⟩
  · exact ⟨["da", "bb", "ca"], by simp [exts], _, rfl, rfl, rfl⟩
  · exact ⟨[], by simp [exts], _, rfl, rfl, rfl⟩
theorem letters_ok (x y : Int) : ∃ (sg ext : List Str) (x' y' : Int), ext ∈ exts ∧ sg.Perm (baseL ++ ext) ∧ F__law_letters_in [.lst [.fr (.int x), .fr (.int y)]] = some (.ok (.fr (.lst (sg.map .str))), [.lst [.fr (.int x'), .fr (.int y')]]) := by
  have hr := roll_ok x y 3 (by decide) (by decide)
  have hb := rollV_lt (x := x) (y := y) (n := 3) (by decide)
  generalize rollV x y 3 = k at hr hb
  generalize rollX x 3 = x1 at hr
  generalize rollY x y = y1 at hr
  obtain ⟨ext, he, v, e1, e2, e3⟩ := ext_ev k hb.1 hb.2
  have hel : ext.length ≤ 3 := by
    simp only [exts, List.mem_cons, List.not_mem_nil, or_false] at he
    rcases he with rfl | rfl | rfl <;> decide
  obtain ⟨sg, x2, y2, r2, hp, e4⟩ := ins_loop (rest := baseL ++ ext) [] x1 y1 none (by simp [baseL]; omega)
  refine ⟨sg, ext, x2, y2, he, hp, mkF_ev (S := [some (.lst [.fr (.int x2), .fr (.int y2)]), some (.fr (.lst (sg.map .str))), r2]) rfl (rns_seq (S1 := [some (.lst [.fr (.int x), .fr (.int y)]), some (newL []), none]) ?_ (rns_seq (S1 := [some (.lst [.fr (.int x2), .fr (.int y2)]), some (newL (sg.map .str)), r2]) (rns_for (S1 := [some (.lst [.fr (.int x1), .fr (.int y1)]), some (newL []), none]) (ev_items (w := v) ?_ e3) e4) (RnS.to' (rns_ret (ev_var (w := newL (sg.map .str)) rfl)) ?_ ?_))) rfl⟩
  · exact rns_asg (i := 1) (ev_wrap (os := []) (ws := []) ev_nil rfl (Nat.zero_le _)) (Nat.le_of_ble_eq_true rfl)
  · refine ev_op2 (x := baseW) (y := .fr (.lst (ext.map .str))) (S1 := [some (.lst [.fr (.int x), .fr (.int y)]), some (newL []), none]) (ev_tmp ?_) (ev_tmp (ev_op2 (x := extW) (y := .fr (.int k)) (S1 := [some (.lst [.fr (.int x), .fr (.int y)]), some (newL []), none]) (ev_tmp ?_) (ev_tmp (ev_callF (S1 := [some (.lst [.fr (.int x), .fr (.int y)]), some (newL []), none]) (ev_cons (ev_slot rfl) (ev_cons (ev_tmp ev_pure) ev_nil)) rfl (by rw [roll_eq]; exact hr) rfl)) rfl rfl e1)) rfl rfl e2
    · rfl
    · rfl
  · rw [toD_new]
  · rw [toD_new]; rfl
theorem mem_iff {x : Str} : ∀ {sg : List Str}, mem sg x = true ↔ x ∈ sg
  | [] => ⟨(fun h => nomatch h), (fun h => nomatch h)⟩
  | s :: r => by
    have ih := mem_iff (x := x) (sg := r)
    by_cases e : s = x
    · subst e
      exact ⟨fun _ => List.mem_cons_self .., fun _ => by unfold mem; rw [show pos s (s :: r) = some 0 from if_pos rfl]; rfl⟩
    · have e1 : mem (s :: r) x = mem r x := by
        unfold mem
        rw [show pos x (s :: r) = (pos x r).map (· + 1) from if_neg e]
        cases pos x r <;> rfl
      rw [e1, ih]
      exact ⟨List.mem_cons_of_mem _, fun h => (List.mem_cons.mp h).elim (fun h => absurd h.symm e) id⟩
theorem exts_cases {p : List Str → Prop} (h0 : p ["ab", "cc"]) (h1 : p ["da", "bb", "ca"]) (h2 : p []) : ∀ e ∈ exts, p e := by
  intro e he
  simp only [exts, List.mem_cons, List.not_mem_nil, or_false] at he
  rcases he with rfl | rfl | rfl <;> assumption
theorem exts_all : ∀ e ∈ exts, ∀ x ∈ baseL ++ e, x ∈ allL := by
  apply exts_cases <;> decide +kernel
theorem strOk_lt {l : List Nat} (h : ∀ c ∈ l, c < 1114112) : PyData.strOk (sx l) = true := by
  show l.toArray.all (fun c => decide (c < 0x110000)) = true
  rw [List.all_toArray, List.all_eq_true]
  exact fun c hc => decide_eq_true (h c hc)
theorem sg_of {sg ext : List Str} (he : ext ∈ exts) (hp : sg.Perm (baseL ++ ext)) : Sg sg := by
  have hall : ∀ x ∈ sg, x ∈ allL := fun x hx => exts_all ext he x (hp.mem_iff.mp hx)
  refine ⟨fun x hx => all_ok x (hall x hx), fun x hx => all_ok x (hall x (mem_iff.mp hx)), fun c h1 h2 => ?_, mem_lst (fun x hx => all_ok x (hall x hx)) fun l h => strOk_lt h⟩
  refine mem_iff.mpr (hp.mem_iff.mpr (List.mem_append_left _ ?_))
  rcases of_decide_eq_true h1 with rfl | rfl | rfl | rfl | rfl | rfl
  · exact List.mem_cons_self ..
  · exact List.mem_cons_of_mem _ (List.mem_cons_self ..)
  · exact List.mem_cons_of_mem _ (List.mem_cons_of_mem _ (List.mem_cons_self ..))
  · exact List.mem_cons_of_mem _ (List.mem_cons_of_mem _ (List.mem_cons_of_mem _ (List.mem_cons_self ..)))
  · exact nomatch h2
  · exact nomatch h2
theorem exts_nodup : ∀ e ∈ exts, (baseL ++ e).Nodup ∧ (baseL ++ e).length ≤ 7 := by
  apply exts_cases <;> exact ⟨by decide +kernel, by decide⟩
theorem hx_of {sg ext : List Str} (he : ext ∈ exts) (hp : sg.Perm (baseL ++ ext)) : mem sg (sx [97, 98]) = true ∨ mem sg (sx [98, 98]) = true ∨ ∀ c d : Nat, mem sg (sx [c, d]) = false := by
  simp only [exts, List.mem_cons, List.not_mem_nil, or_false] at he
  rcases he with rfl | rfl | rfl
  · exact .inl (mem_iff.mpr (hp.mem_iff.mpr (by decide +kernel)))
  · exact .inr (.inl (mem_iff.mpr (hp.mem_iff.mpr (by decide +kernel))))
  · refine .inr (.inr fun c d => ?_)
    cases e : mem sg (sx [c, d]) with
    | false => rfl
    | true =>
      have := hp.mem_iff.mp (mem_iff.mp e)
      have hl : ∀ x ∈ baseL ++ [], x.length = 1 := by decide +kernel
      have h2 := hl _ this
      rw [sx_len] at h2
      exact nomatch h2
theorem sign_ix : ∀ r : Int, 0 ≤ r → r < 10 → ∃ c, okC c = true ∧ rvIx (.fr (.str "abcd-'abcd")) (.fr (.int r)) = some (.fr (.str (sx [c]))) := by
  intro r h1 h2
  have : r = 0 ∨ r = 1 ∨ r = 2 ∨ r = 3 ∨ r = 4 ∨ r = 5 ∨ r = 6 ∨ r = 7 ∨ r = 8 ∨ r = 9 := by omega
  rcases this with rfl | rfl | rfl | rfl | rfl | rfl | rfl | rfl | rfl | rfl
  · exact ⟨97, rfl, by kernel_rfl⟩
  · exact ⟨98, rfl, by kernel_rfl⟩
  · exact ⟨99, rfl, by kernel_rfl⟩
  · exact ⟨100, rfl, by kernel_rfl⟩
  · exact ⟨45, rfl, by kernel_rfl⟩
  · exact ⟨39, rfl, by kernel_rfl⟩
  · exact ⟨97, rfl, by kernel_rfl⟩
  · exact ⟨98, rfl, by kernel_rfl⟩
  · exact ⟨99, rfl, by kernel_rfl⟩
  · exact ⟨100, rfl, by kernel_rfl⟩
/-- the words of the pool -/
def poolN : List (List Nat) := [[97], [97, 98], [98, 97], [97, 98, 99], [99, 97, 98], [98, 97, 100], [100, 97, 98], [97, 98, 98, 97], [100, 97, 45, 98], [100, 39, 97, 98], [99, 99], [97, 99, 100]]
theorem pool_wd : ∀ l ∈ poolN, Wd l := by
  have h : ∀ l ∈ poolN, l.length ≤ 12 ∧ (∀ c ∈ l, okC c = true) ∧ ∃ c ∈ l, quiet c = false := by decide +kernel
  exact fun l hl => ⟨(h l hl).1, (h l hl).2.1, (h l hl).2.2⟩
theorem rounds_eq : F__law_rounds = VD.F_rounds := by kernel_rfl
/-- the signs of a drawn word -/
theorem drawn_signs (x y : Int) : ∃ (cs : List Nat) (x' y' : Int) (r1 : Option W), (∀ c ∈ cs, okC c = true) ∧ (1 ≤ cs.length ∧ cs.length ≤ 8) ∧ Rn c__law_drawn_word_0 [some (.lst [.fr (.int x), .fr (.int y)]), none] (.lst (cs.map fun c => W.fr (.str (sx [c])))) [some (.lst [.fr (.int x'), .fr (.int y')]), r1] := by
  have hr := roll_ok x y 8 (by decide) (by decide)
  have hb := rollV_lt (x := x) (y := y) (n := 8) (by decide)
  generalize rollV x y 8 = k at hr hb
  generalize rollX x 8 = x1 at hr
  generalize rollY x y = y1 at hr
  have hf : Rn (mRange (mCons (mTmp (mOp2 rvAdd (mTmp (pureM (.fr (.int 1)))) (mTmp (mCallF F__law_roll (mCons (mSlot 0) (mCons (mTmp (pureM (.fr (.int 8)))) (mNil))))))) (mNil))) [some (.lst [.fr (.int x), .fr (.int y)]), none] ((List.range (1 + k).toNat).map fun i => VD.D.int (i : Nat)) [some (.lst [.fr (.int x1), .fr (.int y1)]), none] := by
    unfold mRange
    refine ev_bind (u := [.tmp (.fr (.int (1 + k)))]) (S1 := [some (.lst [.fr (.int x1), .fr (.int y1)]), none]) ?_ ?_
    · exact ev_cons (ev_tmp (ev_op2 (x := .fr (.int 1)) (y := .fr (.int k)) (ev_tmp ev_pure) (ev_tmp (ev_callF (S1 := [some (.lst [.fr (.int x), .fr (.int y)]), none]) (ev_cons (ev_slot rfl) (ev_cons (ev_tmp ev_pure) ev_nil)) rfl (by rw [roll_eq]; exact hr) rfl)) rfl rfl rfl)) ev_nil
    · show (if -(2 ^ 62) ≤ 1 + k ∧ 1 + k < 2 ^ 62 then some (Res.ok _, _) else none) = _
      rw [if_pos ⟨by omega, by omega⟩]
  obtain ⟨ws, S', e, ⟨x2, y2, i⟩, l, r⟩ := compL_inv (own := [1]) (b := bName 1) (c := pureM true) (f := mOp2 rvIx (mTmp (pureM (.fr (.str "abcd-'abcd")))) (mTmp (mCallF F__law_roll (mCons (mSlot 0) (mCons (mTmp (pureM (.fr (.int 10)))) (mNil))))))
    (fun S => ∃ x y, S = [some (.lst [.fr (.int x), .fr (.int y)]), none]) (fun _ w => ∃ c, okC c = true ∧ w = .fr (.str (sx [c]))) (ds := (List.range (1 + k).toNat).map fun i => VD.D.int (i : Nat)) (S := [some (.lst [.fr (.int x1), .fr (.int y1)]), none]) ⟨x1, y1, rfl⟩ (fun d hd S hS => by
      obtain ⟨x, y, rfl⟩ := hS
      obtain ⟨i, _, rfl⟩ := List.mem_map.mp hd
      have hr := roll_ok x y 10 (by decide) (by decide)
      have hb := rollV_lt (x := x) (y := y) (n := 10) (by decide)
      obtain ⟨c, hc, ec⟩ := sign_ix _ hb.1 hb.2
      refine ⟨[some (.lst [.fr (.int x), .fr (.int y)]), some (.fr (.int (i : Nat)))], _, [some (.lst [.fr (.int (rollX x 10)), .fr (.int (rollY x y))]), some (.fr (.int (i : Nat)))], _, rfl, rfl, ?_, ⟨c, hc, rfl⟩, _, _, rfl⟩
      exact ev_op2 (ev_tmp ev_pure) (ev_tmp (ev_callF (S1 := [some (.lst [.fr (.int x), .fr (.int y)]), some (.fr (.int (i : Nat)))]) (ev_cons (ev_slot rfl) (ev_cons (ev_tmp ev_pure) ev_nil)) rfl (by rw [roll_eq]; exact hr) rfl)) rfl rfl ec)
  subst i
  have ⟨cs, hw, hp⟩ : ∃ cs : List Nat, ws = cs.map (fun c => W.fr (.str (sx [c]))) ∧ ∀ c ∈ cs, okC c = true := by
    clear e l
    induction ws with
    | nil => exact ⟨[], rfl, fun _ h => nomatch h⟩
    | cons w ws ih =>
      obtain ⟨us, h1, h2⟩ := ih fun x hx => r x (List.mem_cons_of_mem _ hx)
      obtain ⟨_, _, t, ht, rfl⟩ := r w (List.mem_cons_self ..)
      exact ⟨t :: us, by rw [h1]; rfl, fun x hx => (List.mem_cons.mp hx).elim (fun h => h ▸ ht) (h2 x)⟩
  subst hw
  refine ⟨cs, x2, y2, ((restS [some (.lst [.fr (.int x1), .fr (.int y1)]), none] [some (.lst [.fr (.int x2), .fr (.int y2)]), none] [1])[1]?).join, hp, ?_, ?_⟩
  · simp at l
    omega
  · refine Rn.to (ev_comp hf (size100 (by simp; omega)) e) rfl
theorem sx_app {a b : List Nat} : sx a ++ sx b = sx (a ++ b) := by
  show (⟨(sx a).cps ++ (sx b).cps⟩ : Str) = _
  congr 1
  simp
theorem join_go : ∀ {r : List Nat} {a : Nat}, Str.join "" ((a :: r).map fun c => sx [c]) = sx (a :: r)
  | [], a => rfl
  | b :: r, a => by
    have ih := join_go (r := r) (a := b)
    show sx [a] ++ "" ++ Str.join "" ((b :: r).map fun c => sx [c]) = _
    rw [ih, show (sx [a] ++ "" : Str) = sx [a] from rfl, sx_app]; rfl
theorem join_sx : ∀ {cs : List Nat}, Txt.join "" (cs.map fun c => sx [c]) = sx cs := by
  intro cs
  show Builtin.Str.glued "" (cs.map fun c => sx [c]) = _
  rw [StrLaws.glued_eq_join]
  cases cs with
  | nil => rfl
  | cons a r => exact join_go
theorem strsD_ones : ∀ {cs : List Nat}, strsD (cs.map fun c => D.str (sx [c])) = some (cs.map fun c => sx [c])
  | [] => rfl
  | c :: r => by
    have := strsD_ones (cs := r)
    show (strsD (r.map fun c => D.str (sx [c]))).map (sx [c] :: ·) = _
    rw [this]; rfl
theorem word_drawn (x y : Int) : ∃ (cs : List Nat) (x' y' : Int), (∀ c ∈ cs, okC c = true) ∧ (1 ≤ cs.length ∧ cs.length ≤ 8) ∧ F__law_drawn_word [.lst [.fr (.int x), .fr (.int y)]] = some (.ok (.fr (.str (sx cs))), [.lst [.fr (.int x'), .fr (.int y')]]) := by
  obtain ⟨cs, x', y', r1, hc, hl, h⟩ := drawn_signs x y
  refine ⟨cs, x', y', hc, hl, mkF_ev (S := [some (.lst [.fr (.int x'), .fr (.int y')]), r1]) rfl (rns_ret (ev_set (w := .fr (.str (sx cs))) (ev_bm (S1 := [some (.lst [.fr (.int x), .fr (.int y)]), none]) (x := .fr (.str "")) (x' := .fr (.str "")) (ws := [.lst (cs.map fun c => W.fr (.str (sx [c])))]) (ev_tmp ev_pure) rfl rfl (ev_cons (ev_tmp h) ev_nil) rfl rfl ?_))) rfl⟩
  have e1 : W.asLr (.lst (cs.map fun c => W.fr (.str (sx [c])))) = some (cs.map fun c => D.str (sx [c])) := by
    have := own_new (ds := cs.map fun c => D.str (sx [c]))
    unfold newL at this
    rw [List.map_map] at this
    exact this
  show (match (W.asLr (.lst (cs.map fun c => W.fr (.str (sx [c]))))).bind strsD with
    | some ys => if (ys.map (fun z : Str => z.length)).sum + ys.length * ("" : Str).length ≤ 16777216 then some (W.fr (.str (Txt.join "" ys))) else none
    | none => none) = _
  rw [e1]
  show (match strsD (cs.map fun c => D.str (sx [c])) with
    | some ys => if (ys.map (fun z : Str => z.length)).sum + ys.length * ("" : Str).length ≤ 16777216 then some (W.fr (.str (Txt.join "" ys))) else none
    | none => none) = _
  rw [strsD_ones]
  dsimp only
  have hs : ∀ cs : List Nat, ((cs.map fun c => sx [c]).map (fun z : Str => z.length)).sum = cs.length := by
    intro cs
    induction cs with
    | nil => rfl
    | cons c r ih => simp only [List.map_cons, List.sum_cons, ih, sx_len, List.length_cons, List.length_nil]; omega
  rw [hs, if_pos (by have : ("" : Str).length = 0 := rfl; rw [this]; omega), join_sx]

/-! ### one round -/
theorem ev_make {c : Str} {F : Fn} {f : M (List Opd)} {os : List Opd} {ws ws' : List W} {o : W} {S S1 S2 S3 : Sl} (h : Rn f S os S1) (t : takeL os S1 = some (ws, S2)) (e : F (.obj c [] :: ws) = some (.ok (.fr .non), o :: ws')) (g : giveL os ws' S2 = some S3) : Rn (mMake c F f) S o S3 := by
  refine ev_bind h ?_
  show (match takeL os S1 with
    | some (ws, S1) => match F (.obj c [] :: ws) with
      | some (.ok (.fr .non), w :: ws') => (giveL os ws' S1).map fun S2 => (Res.ok w, S2)
      | some (.ex c, _ :: ws') => (giveL os ws' S1).map fun S2 => (Res.ex c, S2)
      | _ => none
    | none => none) = _
  rw [t]
  show (match F (.obj c [] :: ws) with
      | some (.ok (.fr .non), w :: ws') => (giveL os ws' S2).map fun S2 => (Res.ok w, S2)
      | some (.ex c, _ :: ws') => (giveL os ws' S2).map fun S2 => (Res.ex c, S2)
      | _ => none) = _
  rw [e]
  show (giveL os ws' S2).map _ = _
  rw [g]; rfl
theorem cut7 {cs : List Nat} : cutS (sx cs) none (some 7) = sx (cs.take 7) := by
  have e : HT.sIx (sx cs).length (sx cs).length (some 7) = min 7 cs.length := by
    rw [← sx_len (l := cs)]
    exact HT.sIx_nat (sx cs).length (sx cs).length 7
  have e0 : HT.sIx (sx cs).length 0 none = 0 := rfl
  unfold cutS
  rw [e, e0, Nat.sub_zero, List.drop_zero]
  show sx (cs.take (min 7 cs.length)) = _
  by_cases h : 7 ≤ cs.length
  · rw [Nat.min_eq_left h]
  · rw [Nat.min_eq_right (by omega), List.take_of_length_le (Nat.le_refl _), List.take_of_length_le (by omega)]
theorem add_a {l : List Nat} (h : l.length ≤ 100) : rvAdd (.fr (.str "a")) (.fr (.str (sx l))) = some (.fr (.str (sx (97 :: l)))) := by
  have e1 : decide (("a" : Str).length + (sx l).length ≤ sizeLine) = true := decide_eq_true (by
    have e : ("a" : Str).length = 1 := rfl
    rw [e, sx_len, sizeLine_eq]; omega)
  have e2 : strO (fun a b => decide (a.length + b.length ≤ sizeLine)) (fun a b => .str (a ++ b)) (.fr (.str "a")) (.fr (.str (sx l))) = some (.fr (.str (sx (97 :: l)))) := by
    show (if decide (("a" : Str).length + (sx l).length ≤ sizeLine) = true then some (W.fr (D.str ("a" ++ sx l))) else none) = _
    rw [if_pos e1, show (("a" : Str) ++ sx l) = sx [97] ++ sx l from rfl, sx_app]; rfl
  show orO _ (orO _ _) _ _ = _
  unfold orO
  rw [e2]; rfl
theorem first_wd {cs : List Nat} (hc : ∀ c ∈ cs, okC c = true) : Wd (97 :: cs.take 7) := by
  refine ⟨?_, fun c h => ?_, 97, List.mem_cons_self .., rfl⟩
  · rw [List.length_cons, List.length_take]; omega
  · rcases List.mem_cons.mp h with rfl | h
    · rfl
    · exact hc c (List.mem_of_mem_take h)
def six : List (List Nat) := [[100, 45, 97, 98], [100, 97, 98], [100, 39, 97, 98], [100, 97, 45, 98], [97, 98], [97]]
theorem six_wd : ∀ l ∈ six, Wd l := by
  intro l hl
  simp only [six, List.mem_cons, List.not_mem_nil, or_false] at hl
  rcases hl with rfl | rfl | rfl | rfl | rfl | rfl <;> exact ⟨by decide, by decide, 97, by decide, rfl⟩
/-! ### what raises -/
def RnX {α : Type} (m : M α) (S : Sl) (c : Exc) (S1 : Sl) : Prop := m S = some (.ex c, S1)
section
variable {α β : Type} {S S1 S2 S3 : Sl} {c : Exc} {x w v : W}
theorem bindX {f : M α} {k : α → M β} (h : RnX f S c S1) : RnX (VD.bindM f k) S c S1 := by
  unfold RnX VD.bindM at *
  rw [h]
theorem bindX2 {f : M α} {k : α → M β} {u : α} (h : Rn f S u S1) (q : RnX (k u) S1 c S2) : RnX (VD.bindM f k) S c S2 := by
  unfold RnX VD.bindM at *
  unfold Rn at h
  rw [h]
  exact q
theorem dropX {f : M W} (h : RnX f S c S1) : RnS (mDrop f) S (.ex c) S1 := by
  unfold RnS mDrop bindS
  unfold RnX at h
  rw [h]
theorem seqX {f g : MS} (h : RnS f S (.ex c) S1) : RnS (mSeq f g) S (.ex c) S1 := by
  unfold RnS mSeq at *
  rw [h]
theorem toldX {m : M W} {d : D} (h : RnX m S c S1) (e : toldD c = some d) : Rn (mTold m) S (.fr d) S1 := by
  unfold Rn mTold
  unfold RnX at h
  rw [h]
  show (toldD c).map _ = _
  rw [e]; rfl
theorem callX {F : Fn} {f : M (List Opd)} {os : List Opd} {ws ws' : List W} (h : Rn f S os S1) (t : takeL os S1 = some (ws, S2)) (e : F ws = some (.ex c, ws')) (g : giveL os ws' S2 = some S3) : RnX (mCallF F f) S c S3 := by
  refine bindX2 h ?_
  unfold RnX
  dsimp only
  rw [t]
  dsimp only
  rw [e]
  dsimp only
  rw [g]; rfl
theorem methX {c' m : Str} {F : Fn} {g : M Opd} {f : M (List Opd)} {o : Opd} {os : List Opd} {ws ws' : List W} {S4 : Sl} (h : Rn g S o S1) (e : o.get S1 = some w) (hi : w.inst c' m = true) (h2 : Rn f S1 os S2) (t : takeL (o :: os) S2 = some (ws, S3)) (eF : F ws = some (.ex c, ws')) (gv : giveL (o :: os) ws' S3 = some S4) : RnX (mMethF c' m F g f) S c S4 := by
  unfold mMethF
  refine bindX2 h ?_
  unfold RnX
  dsimp only
  rw [e]; dsimp only
  rw [if_pos hi]
  exact callX (ev_bind h2 ev_pure) t eF gv
theorem mkF_ex {N n : Nat} {m : MS} {ws ws' : List W} (hn : ws.length = n) (h : RnS m (ws.map some ++ List.replicate (N - n) none) (.ex c) S) (b : backs n S = some ws') : mkF N n m ws = some (.ex c, ws') := by
  unfold mkF
  unfold RnS at h
  rw [if_pos hn, h]
  show (backs n S).map _ = _
  rw [b]; rfl
theorem rns_forX {f : M (List D)} {b : Tgt} {m : MS} {ds : List D} (h : Rn f S ds S1) (e : mForL b m ds S1 = some (.ex c, S2)) : RnS (mFor f b m) S (.ex c) S2 := rns_bind h e
end
def bw : Exc := ⟨"BadWord", none⟩
section
variable {sg : List Str} {d : D}
abbrev NoW (sg : List Str) (d : D) : Prop := F_Alphabet_d_has [.fr (alph sg), .fr d] = some (.ok (.fr (.bl false)), [.fr (alph sg), .fr d])
theorem need_x (h : NoW sg d) : F_Alphabet_d_need [.fr (alph sg), .fr d] = some (.ex bw, [.fr (alph sg), .fr d]) := by
  refine mkF_ex (S := [some (.fr (alph sg)), some (.fr d)]) rfl (rns_if (t := true) ?_ (fun _ => rfl) fun h => nomatch h) rfl
  exact ev_bind (ev_test (ev_meth (S1 := [some (.fr (alph sg)), some (.fr d)]) (ev_slot rfl) rfl rfl (ev_cons (ev_tmp (ev_varS (d := d) rfl)) ev_nil) rfl h rfl)) rfl
theorem read_x (h : NoW sg d) : F_Alphabet_d_read [.fr (alph sg), .fr d] = some (.ex bw, [.fr (alph sg), .fr d]) :=
  mkF_ex (S := [some (.fr (alph sg)), some (.fr d)]) rfl (seqX (dropX (methX (S1 := [some (.fr (alph sg)), some (.fr d)]) (ev_slot rfl) rfl rfl (ev_cons (ev_tmp (ev_varS (d := d) rfl)) ev_nil) rfl (need_x h) rfl))) rfl
end

theorem add_s {a b : List Nat} (h : a.length ≤ 100) (h2 : b.length ≤ 100) : rvAdd (.fr (.str (sx a))) (.fr (.str (sx b))) = some (.fr (.str (sx (a ++ b)))) := by
  have e1 : decide ((sx a).length + (sx b).length ≤ sizeLine) = true := decide_eq_true (by
    rw [sx_len, sx_len, sizeLine_eq]; omega)
  have e2 : strO (fun a b => decide (a.length + b.length ≤ sizeLine)) (fun a b => .str (a ++ b)) (.fr (.str (sx a))) (.fr (.str (sx b))) = some (.fr (.str (sx (a ++ b)))) := by
    show (if decide ((sx a).length + (sx b).length ≤ sizeLine) = true then some (W.fr (D.str (sx a ++ sx b))) else none) = _
    rw [if_pos e1, sx_app]
  show orO _ (orO _ _) _ _ = _
  unfold orO
  rw [e2]; rfl
theorem tD : toldD bw = some (refD "BadWord") := by kernel_rfl
/-! ### words of drawn signs, perhaps with an x -/
def okX (c : Nat) : Bool := okC c || decide (c = 120)
theorem okX_in {c : Nat} (h : okX c = true) : rvIn (.fr (.str (sx [c]))) (.fr (.str "abcdefghijklmnopqrstuvwxyz-'")) = some (.fr (.bl true)) := by
  rcases Bool.or_eq_true_iff.mp h with h | h
  · exact okC_in h
  · rw [of_decide_eq_true h]; kernel_rfl
structure Wx (l : List Nat) : Prop where
  h1 : 1 ≤ l.length
  h2 : l.length ≤ 12
  hc : ∀ c ∈ l, okX c = true
theorem iswordX {l : List Nat} (h1 : 1 ≤ l.length) (h2 : l.length ≤ 12) (hc : ∀ c ∈ l, okX c = true) : F_is_word [.fr (.str (sx l))] = some (.ok (.fr (.bl true)), [.fr (.str (sx l))]) := by
  have hz : l.length ≤ sizeLine := by rw [sizeLine_eq]; omega
  have hcm : mCompL [1] (bName 1) (pureM true) (mOp2 rvIn (mSlot 1) (mTmp (mOp2 rvAdd (mTmp (pureM (.fr (.str "abcdefghijklmnopqrstuvwxyz")))) (mTmp (pureM (.fr (.str "-'"))))))) (l.map fun c => D.str (sx [c])) [some (.fr (.str (sx l))), none] = some (((l.map fun c => D.str (sx [c])).map fun _ => D.bl true).map .fr, [some (.fr (.str (sx l))), none]) := by
    refine compL_map fun d hd => ?_
    obtain ⟨c, hc', rfl⟩ := List.mem_map.mp hd
    refine ⟨[some (.fr (.str (sx l))), some (.fr (.str (sx [c])))], [some (.fr (.str (sx l))), some (.fr (.str (sx [c])))], rfl, ?_, rfl⟩
    exact ev_op2 (ev_slot rfl) (ev_tmp (ev_op2 (w := .fr (.str "abcdefghijklmnopqrstuvwxyz-'")) (ev_tmp ev_pure) (ev_tmp ev_pure) rfl rfl rfl)) rfl rfl (okX_in (hc c hc'))
  have hcc : Rn (c_is_word_0) [some (.fr (.str (sx l))), none] (.lst (((l.map fun c => D.str (sx [c])).map fun _ => D.bl true).map .fr)) [some (.fr (.str (sx l))), none] :=
    ev_comp (S1 := [some (.fr (.str (sx l))), none]) (S2 := [some (.fr (.str (sx l))), none]) (ds := l.map fun c => D.str (sx [c])) (ev_items (ev_varS (d := .str (sx l)) rfl) rfl) (by rw [List.length_map]; exact hz) hcm
  refine mkF_ev (S := [some (.fr (.str (sx l))), none]) rfl (rns_ret (ev_andV (S1 := [some (.fr (.str (sx l))), none]) (ev_op1 (x := .fr (.str (sx l))) (ev_slot rfl) rfl rfl) (ev_andV (S1 := [some (.fr (.str (sx l))), none]) ?_ ?_))) rfl
  · refine ev_chainT (S2 := [some (.fr (.str (sx l))), none]) (y := .fr (.int (l.length : Nat))) (y' := .fr (.int (l.length : Nat))) (x := .fr (.int 1)) (z := .fr (.int 12)) (ev_tmp ev_pure) (ev_tmp (ev_call (ws := [.fr (.str (sx l))]) (ev_cons (ev_slot rfl) ev_nil) rfl (len_sx hz))) rfl rfl ?_ (ev_tmp ev_pure) rfl rfl ?_
    · rw [le_ii, decide_eq_true (by omega)]
    · rw [le_ii, decide_eq_true (by omega)]
  · refine ev_call (ev_cons (ev_tmp hcc) ev_nil) rfl (all_true fun w hw => ?_)
    obtain ⟨d, hd, rfl⟩ := List.mem_map.mp hw
    obtain ⟨_, _, rfl⟩ := List.mem_map.mp hd
    rfl
theorem Wx.lt {l : List Nat} (w : Wx l) : ∀ c ∈ l, c < 1114112 := by
  intro c hc
  rcases Bool.or_eq_true_iff.mp (w.hc c hc) with h | h
  · rcases of_decide_eq_true h with rfl | rfl | rfl | rfl | rfl | rfl <;> omega
  · rw [of_decide_eq_true h]; omega
section
variable {sg : List Str}
theorem noW_x (g : Sg sg) {l : List Nat} (w : Wx l) (hv : readV (readL (mem sg) l) = .non) : NoW sg (.str (sx l)) := by
  have h2 := w.h2
  have hr := taken_ok (se := alph sg) (tb := .fr (.dct (tabOf 0 sg))) rfl mem_tab g.hmem (l := l) (by omega)
  rw [hv] at hr
  refine mkF_ev (S := [some (.fr (alph sg)), some (.fr (.str (sx l)))]) rfl (rns_ret (ev_andV (S1 := [some (.fr (alph sg)), some (.fr (.str (sx l)))]) ?_ ?_)) rfl
  · exact ev_callF (S1 := [some (.fr (alph sg)), some (.fr (.str (sx l)))]) (ev_cons (ev_tmp (ev_varS (d := .str (sx l)) rfl)) ev_nil) rfl (iswordX w.h1 w.h2 w.hc) rfl
  · exact ev_op2 (ev_tmp (ev_meth (S1 := [some (.fr (alph sg)), some (.fr (.str (sx l)))]) (ev_slot rfl) rfl rfl (ev_cons (ev_tmp (ev_varS (d := .str (sx l)) rfl)) ev_nil) rfl hr rfl)) (ev_tmp ev_pure) rfl rfl rfl
theorem hasX (g : Sg sg) {l : List Nat} (w : Wx l) {o : Str} {out : List Str} (e : readL (mem sg) l = some (o :: out)) : F_Alphabet_d_has [.fr (alph sg), .fr (.str (sx l))] = some (.ok (.fr (.bl true)), [.fr (alph sg), .fr (.str (sx l))]) := by
  have h2 := w.h2
  have hr := taken_ok (se := alph sg) (tb := .fr (.dct (tabOf 0 sg))) rfl mem_tab g.hmem (l := l) (by omega)
  rw [e] at hr
  refine mkF_ev (S := [some (.fr (alph sg)), some (.fr (.str (sx l)))]) rfl (rns_ret (ev_andV (S1 := [some (.fr (alph sg)), some (.fr (.str (sx l)))]) ?_ ?_)) rfl
  · exact ev_callF (S1 := [some (.fr (alph sg)), some (.fr (.str (sx l)))]) (ev_cons (ev_tmp (ev_varS (d := .str (sx l)) rfl)) ev_nil) rfl (iswordX w.h1 w.h2 w.hc) rfl
  · exact ev_op2 (ev_tmp (ev_meth (S1 := [some (.fr (alph sg)), some (.fr (.str (sx l)))]) (ev_slot rfl) rfl rfl (ev_cons (ev_tmp (ev_varS (d := .str (sx l)) rfl)) ev_nil) rfl hr rfl)) (ev_tmp ev_pure) rfl rfl rfl
theorem needX (g : Sg sg) {l : List Nat} (w : Wx l) {o : Str} {out : List Str} (e : readL (mem sg) l = some (o :: out)) : F_Alphabet_d_need [.fr (alph sg), .fr (.str (sx l))] = some (.ok (.fr .non), [.fr (alph sg), .fr (.str (sx l))]) := by
  refine mkF_nx (S := [some (.fr (alph sg)), some (.fr (.str (sx l)))]) rfl (rns_if (t := false) ?_ (fun h => nomatch h) fun _ => rfl) rfl
  exact ev_bind (ev_test (ev_meth (S1 := [some (.fr (alph sg)), some (.fr (.str (sx l)))]) (ev_slot rfl) rfl rfl (ev_cons (ev_tmp (ev_varS (d := .str (sx l)) rfl)) ev_nil) rfl (hasX g w e) rfl)) rfl
theorem readX (g : Sg sg) {l : List Nat} (w : Wx l) {o : Str} {out : List Str} (e : readL (mem sg) l = some (o :: out)) : F_Alphabet_d_read [.fr (alph sg), .fr (.str (sx l))] = some (.ok (.fr (readV (some (o :: out)))), [.fr (alph sg), .fr (.str (sx l))]) := by
  have h2 := w.h2
  have hr := taken_ok (se := alph sg) (tb := .fr (.dct (tabOf 0 sg))) rfl mem_tab g.hmem (l := l) (by omega)
  rw [e] at hr
  refine mkF_ev (S := [some (.fr (alph sg)), some (.fr (.str (sx l)))]) rfl (rns_seq (S1 := [some (.fr (alph sg)), some (.fr (.str (sx l)))]) ?_ (rns_ret (ev_set (w := .fr (readV (some (o :: out)))) ?_))) rfl
  · exact rns_drop (ev_meth (S1 := [some (.fr (alph sg)), some (.fr (.str (sx l)))]) (ev_slot rfl) rfl rfl (ev_cons (ev_tmp (ev_varS (d := .str (sx l)) rfl)) ev_nil) rfl (needX g w e) rfl)
  · exact ev_meth (S1 := [some (.fr (alph sg)), some (.fr (.str (sx l)))]) (ev_slot rfl) rfl rfl (ev_cons (ev_tmp (ev_varS (d := .str (sx l)) rfl)) ev_nil) rfl hr rfl
/-! ### letters put together again -/
def loud (l : List Nat) : List Nat := (l.filter fun c => decide (c ≠ 45)).filter fun c => decide (c ≠ 39)
def unx (x : Str) : List Nat := x.cps.toList
theorem unx_sx {l : List Nat} : unx (sx l) = l := by unfold unx; simp
theorem loud_quiet {c : Nat} {r : List Nat} (h : quiet c = true) : loud (c :: r) = loud r := by
  have : c = 45 ∨ c = 39 := by
    have h2 : c ∈ [45, 39] := of_decide_eq_true h
    simpa using h2
  rcases this with rfl | rfl <;> simp [loud]
theorem loud_loud {c : Nat} {r : List Nat} (h : ¬ quiet c = true) : loud (c :: r) = c :: loud r := by
  have h1 : c ≠ 45 := fun e => by subst e; exact h rfl
  have h2 : c ≠ 39 := fun e => by subst e; exact h rfl
  simp [loud, h1, h2]
def NoQ (mem : Str → Bool) : Prop := ∀ c d : Nat, mem (sx [c, d]) = true → ¬ quiet d = true
theorem readL_loud {mem : Str → Bool} (hq : NoQ mem) : ∀ {l : List Nat} {out : List Str}, readL mem l = some out → (out.map unx).flatten = loud l
  | [], out, e => by simp [readL] at e; subst e; rfl
  | [c], out, e => by
    unfold readL at e
    by_cases q : quiet c = true
    · simp [q] at e; subst e; rw [loud_quiet q]; rfl
    · by_cases q1 : mem (sx [c]) = true
      · simp [q, q1] at e; subst e
        rw [loud_loud q, List.map_cons, unx_sx]; rfl
      · simp [q, q1] at e
  | c :: d :: r, out, e => by
    unfold readL at e
    by_cases q : quiet c = true
    · simp only [q, if_true] at e
      rw [loud_quiet q]
      exact readL_loud hq e
    · by_cases q2 : mem (sx [c, d]) = true
      · simp only [q, q2, if_true] at e
        obtain ⟨o2, e2, rfl⟩ := Option.map_eq_some_iff.mp e
        rw [loud_loud q, loud_loud (hq c d q2), List.map_cons, unx_sx, ← readL_loud hq e2]; rfl
      · by_cases q1 : mem (sx [c]) = true
        · simp only [q, q2, q1, if_true] at e
          obtain ⟨o2, e2, rfl⟩ := Option.map_eq_some_iff.mp e
          rw [loud_loud q, List.map_cons, unx_sx, ← readL_loud hq e2]; rfl
        · simp [q, q2, q1] at e
theorem repl1 {c : Nat} : ∀ {l : List Nat}, PySem.StrLaws.replL [c] [] l = l.filter fun d => decide (d ≠ c)
  | [] => PySem.StrLaws.replL_nil
  | d :: r => by
    by_cases h : d = c
    · subst h
      rw [PySem.StrLaws.replL_hit (by simp) (by simp)]
      simp [repl1 (l := r)]
    · rw [PySem.StrLaws.replL_miss (by simp [h])]
      simp [h, repl1 (l := r)]
theorem replace1 {l : List Nat} {c : Nat} {y : Str} (hy : y = sx [c]) : Txt.replace (sx l) y "" = sx (l.filter fun d => decide (d ≠ c)) := by
  subst hy
  have e := PySem.StrLaws.replace_list (x := sx l) (y := sx [c]) (z := "") (by rw [sx_len]; exact Nat.le_refl _)
  have e2 : (sx l).cps.toList = l := by simp
  have e3 : (sx [c]).cps.toList = [c] := rfl
  have e4 : ("" : Str).cps.toList = [] := rfl
  rw [e2, e3, e4, repl1] at e
  rw [sx_of (Txt.replace (sx l) (sx [c]) ""), e]
theorem joinG_go : ∀ {r : List Str} {a : Str}, Str.join "" (a :: r) = sx (((a :: r).map unx).flatten)
  | [], a => by
    show a = _
    rw [sx_of a]; simp [unx]
  | b :: r, a => by
    have ih := joinG_go (r := r) (a := b)
    show a ++ "" ++ Str.join "" (b :: r) = _
    rw [ih, sx_of a, show (sx a.cps.toList ++ "" : Str) = sx a.cps.toList ++ sx [] from rfl, sx_app, sx_app]
    simp [unx]
theorem join_gen : ∀ {xs : List Str}, Txt.join "" xs = sx ((xs.map unx).flatten) := by
  intro xs
  show Builtin.Str.glued "" xs = _
  rw [StrLaws.glued_eq_join]
  cases xs with
  | nil => rfl
  | cons a r => exact joinG_go
theorem strsD_map : ∀ {xs : List Str}, strsD (xs.map D.str) = some xs
  | [] => rfl
  | x :: r => by
    have := strsD_map (xs := r)
    show (strsD (r.map D.str)).map (x :: ·) = _
    rw [this]; rfl
theorem eqv_strs : ∀ {xs ys : List Str}, PyData.eqvAll (xs.map PyData.str) (ys.map PyData.str) = decide (xs = ys)
  | [], [] => rfl
  | [], y :: ys => by simp [PyData.eqvAll]
  | x :: xs, [] => by simp [PyData.eqvAll]
  | x :: xs, y :: ys => by
    have ih := eqv_strs (xs := xs) (ys := ys)
    show (PyData.eqv (.str x) (.str y) && PyData.eqvAll (xs.map PyData.str) (ys.map PyData.str)) = _
    rw [ih]
    show ((x == y) && decide (xs = ys)) = _
    by_cases h : x = y <;> by_cases h2 : xs = ys <;> simp [h, h2]
end

/-! ### alphabets that are equal, that are not -/
theorem noq {sg : List Str} (hx : ∀ z ∈ sg, z ∈ allL) : NoQ (mem sg) := by
  intro c d h
  have key : ∀ z ∈ allL, ∀ c d : Nat, z = sx [c, d] → ¬ quiet d = true := by
    have un : ∀ {z : Str} {c d : Nat}, z = sx [c, d] → unx z = [c, d] := fun e => by rw [e, unx_sx]
    apply all_cases <;> intro c d e <;> have h2 := un e
    · have h3 : (1 : Nat) = 2 := congrArg List.length h2
      omega
    · have h3 : (1 : Nat) = 2 := congrArg List.length h2
      omega
    · have h3 : (1 : Nat) = 2 := congrArg List.length h2
      omega
    · have h3 : (1 : Nat) = 2 := congrArg List.length h2
      omega
    · have h3 : [97, 98] = [c, d] := h2
      cases h3; decide
    · have h3 : [99, 99] = [c, d] := h2
      cases h3; decide
    · have h3 : [100, 97] = [c, d] := h2
      cases h3; decide
    · have h3 : [98, 98] = [c, d] := h2
      cases h3; decide
    · have h3 : [99, 97] = [c, d] := h2
      cases h3; decide
  exact key _ (hx _ (mem_iff.mp h)) c d rfl
theorem shaped_tups {xs : List Str} (h : ∀ x ∈ xs, PyData.strOk x = true) : SeqAt.shaped (.tuple (xs.map PyData.str)) = true := by
  obtain ⟨p, e, s⟩ := shaped_of (ok_tup (n := 0) (strs_ok h)) (by decide)
  have : D.py (.tup (xs.map D.str)) = some (.tuple (xs.map PyData.str)) := by
    show (pyL (xs.map D.str)).map PyData.tuple = _
    rw [pyL_strs]; rfl
  rw [this] at e
  cases e
  exact s
theorem eq_tups {xs ys : List Str} (hx : ∀ x ∈ xs, PyData.strOk x = true) (hy : ∀ x ∈ ys, PyData.strOk x = true) : rvEq (.fr (.tup (xs.map .str))) (.fr (.tup (ys.map .str))) = some (.fr (.bl (decide (xs = ys)))) := by
  refine rvEq_ok ?_
  have e1 : D.py (.tup (xs.map D.str)) = some (.tuple (xs.map PyData.str)) := by
    show (pyL (xs.map D.str)).map PyData.tuple = _
    rw [pyL_strs]; rfl
  have e2 : D.py (.tup (ys.map D.str)) = some (.tuple (ys.map PyData.str)) := by
    show (pyL (ys.map D.str)).map PyData.tuple = _
    rw [pyL_strs]; rfl
  show eqD (.tup (xs.map .str)) (.tup (ys.map .str)) = _
  unfold eqD
  rw [e1, e2]
  dsimp only
  rw [shaped_tups hx, shaped_tups hy]
  simp only [Bool.and_self, if_true, Option.some.injEq]
  show PyData.eqvAll (xs.map PyData.str) (ys.map PyData.str) = _
  exact eqv_strs
theorem eq_ok {sg sh : List Str} (hx : ∀ x ∈ sg, PyData.strOk x = true) (hy : ∀ x ∈ sh, PyData.strOk x = true) : F_Alphabet_d___eq__ [.fr (alph sg), objA sh] = some (.ok (.fr (.bl (decide (sg = sh)))), [.fr (alph sg), objA sh]) := by
  refine mkF_ev (S := [some (.fr (alph sg)), some (objA sh)]) rfl (rns_ret (ev_andV (S1 := [some (.fr (alph sg)), some (objA sh)]) (ev_op1 (x := objA sh) (ev_slot rfl) rfl rfl) ?_)) rfl
  exact ev_op2 (x := .fr (.tup (sg.map .str))) (y := .fr (.tup (sh.map .str))) (ev_tmp (ev_op1 (x := .fr (alph sg)) (ev_slot rfl) rfl rfl)) (ev_tmp (ev_op1 (x := objA sh) (ev_slot rfl) rfl rfl)) rfl rfl (eq_tups hx hy)
theorem ev_eqO {c : Str} {F : Fn} {n : Bool} {f g : M Opd} {a b : Opd} {x y w : W} {ws ws' : List W} {S S1 S2 S3 S4 : Sl} (h : Rn f S a S1) (h2 : Rn g S1 b S2) (e1 : a.get S2 = some x) (e2 : b.get S2 = some y) (hi : (x.inst c "__eq__" && y.inst c "__eq__") = true) (t : takeL [a, b] S2 = some (ws, S3)) (eF : eqF F n ws = some (.ok w, ws')) (gv : giveL [a, b] ws' S3 = some S4) : Rn (mEqO c F n f g) S w S4 := by
  unfold mEqO
  refine ev_bind h (ev_bind h2 ?_)
  unfold Rn
  dsimp only
  rw [e1, e2]; dsimp only
  rw [if_pos hi, t]; dsimp only
  rw [eF]; dsimp only
  rw [gv]; rfl
theorem eqF_of {F : Fn} {n t : Bool} {ws ws' : List W} (h : F ws = some (.ok (.fr (.bl t)), ws')) : eqF F n ws = some (.ok (.fr (.bl (t != n))), ws') := by
  unfold eqF
  rw [h]
theorem rev_ne {sg : List Str} (hn : sg.Nodup) (h2 : 2 ≤ sg.length) : ¬ sg = sg.reverse := by
  intro e
  have h0 : sg[0]? = sg.reverse[0]? := by rw [← e]
  rw [List.getElem?_reverse (by omega)] at h0
  have := (List.getElem?_inj (i := 0) (j := sg.length - 1 - 0) (by omega) hn).mp h0
  omega
abbrev WS (s0 dc : Option W) (sg : List Str) (s4 s5 s6 : Option W) : Sl := [s0, dc, some (.fr (.lst (sg.map .str))), some (.fr (alph sg)), s4, s5, s6]
theorem alike_turn {sg : List Str} (hx : ∀ z ∈ sg, z ∈ allL) (g : Sg sg) (hn : sg.Nodup) (h4 : 4 ≤ sg.length) (h30 : sg.length ≤ 30) (s0 dc s4 s5 s6 : Option W) :
    RnS (mIfS (mOr (mTest (mOp2 rvNe (mTmp (mMethF "Alphabet" "letters" F_Alphabet_d_letters (mSlot 3) mNil)) (mTmp (mCall rvTuple (mCons (mSlot 2) (mNil)))))) (mTest (mEqO "Alphabet" F_Alphabet_d___eq__ true (mSlot 3) (mTmp (mMake "Alphabet" F_Alphabet_d___init__ (mCons (mTmp (mSet (mCall rvTuple (mCons (mSlot 2) (mNil))))) (mNil))))))) (mRet (pureM (.fr (.bl false)))) (mNext)) (WS s0 dc sg s4 s5 s6) .nx (WS s0 dc sg s4 s5 s6) := by
  have ht : Rn (mCall rvTuple (mCons (mSlot 2) (mNil))) (WS s0 dc sg s4 s5 s6) (.fr (.tup (sg.map .str))) (WS s0 dc sg s4 s5 s6) := ev_call (ws := [.fr (.lst (sg.map .str))]) (ev_cons (ev_slot rfl) ev_nil) rfl rfl
  have hl : F_Alphabet_d_letters [.fr (alph sg)] = some (.ok (.fr (.tup (sg.map .str))), [.fr (alph sg)]) := by kernel_rfl
  refine rns_if (t := false) (ev_or (S1 := WS s0 dc sg s4 s5 s6) (ev_test (ev_op2 (x := .fr (.tup (sg.map .str))) (y := .fr (.tup (sg.map .str))) (ev_tmp (ev_meth (S1 := WS s0 dc sg s4 s5 s6) (ev_slot rfl) rfl rfl ev_nil rfl hl rfl)) (ev_tmp ht) rfl rfl (rvNe_ok (b := true) (eqD_self (n := 1) (ok_tup (strs_ok g.hs)) (by decide))))) (ev_test (ev_eqO (S1 := WS s0 dc sg s4 s5 s6) (b := .tmp (objA sg)) (ws := [.fr (alph sg), objA sg]) (ws' := [.fr (alph sg), objA sg]) (ev_slot rfl) (ev_tmp (ev_make (S1 := WS s0 dc sg s4 s5 s6) (ev_cons (ev_tmp (ev_set ht)) ev_nil) rfl (init_tup hx hn (by omega) h30).1 rfl)) rfl rfl rfl rfl (eqF_of (t := true) ?_) rfl))) (fun h => nomatch h) fun _ => rfl
  rw [eq_ok g.hs g.hs, decide_eq_true rfl]
theorem other_turn {sg : List Str} (hx : ∀ z ∈ sg, z ∈ allL) (g : Sg sg) (hn : sg.Nodup) (h4 : 4 ≤ sg.length) (h30 : sg.length ≤ 30) (s0 dc s4 s5 s6 : Option W) :
    RnS (mIfS (mAnd (mTest (mOp2 rvGt (mTmp (mCall rvLenS (mCons (mSlot 2) (mNil)))) (mTmp (pureM (.fr (.int 1)))))) (mTest (mEqO "Alphabet" F_Alphabet_d___eq__ false (mSlot 3) (mTmp (mMake "Alphabet" F_Alphabet_d___init__ (mCons (mTmp (mSet (mOp1 rvRev (mSlot 2)))) (mNil))))))) (mRet (pureM (.fr (.bl false)))) (mNext)) (WS s0 dc sg s4 s5 s6) .nx (WS s0 dc sg s4 s5 s6) := by
  have hr : Rn (mSet (mOp1 rvRev (mSlot 2))) (WS s0 dc sg s4 s5 s6) (.fr (.lst (sg.reverse.map .str))) (WS s0 dc sg s4 s5 s6) := by
    refine Rn.to' (ev_set (w := newL (sg.map D.str).reverse) (ev_op1 (x := .fr (.lst (sg.map .str))) (ev_slot rfl) rfl rfl)) ?_ rfl
    rw [toD_new, List.map_reverse]
  have hs' : ∀ x ∈ sg.reverse, PyData.strOk x = true := fun x h => g.hs x (List.mem_reverse.mp h)
  refine rns_if (t := false) (ev_and (s := true) (S1 := WS s0 dc sg s4 s5 s6) (ev_test (ev_op2 (x := .fr (.int (sg.length : Nat))) (y := .fr (.int 1)) (ev_tmp (ev_call (ws := [.fr (.lst (sg.map .str))]) (ev_cons (ev_slot rfl) ev_nil) rfl ?_)) (ev_tmp ev_pure) rfl rfl ?_)) (fun _ => ev_test (ev_eqO (S1 := WS s0 dc sg s4 s5 s6) (b := .tmp (objA sg.reverse)) (ws := [.fr (alph sg), objA sg.reverse]) (ws' := [.fr (alph sg), objA sg.reverse]) (ev_slot rfl) (ev_tmp (ev_make (S1 := WS s0 dc sg s4 s5 s6) (ev_cons (ev_tmp hr) ev_nil) rfl (init_lst (sg := sg.reverse) (fun x h => hx x (List.mem_reverse.mp h)) ((List.reverse_perm sg).nodup_iff.mpr hn) (by rw [List.length_reverse]; omega) (by rw [List.length_reverse]; omega)).1 rfl)) rfl rfl rfl rfl (eqF_of (t := false) ?_) rfl)) fun h => nomatch h) (fun h => nomatch h) fun _ => rfl
  · show some (W.fr (.int ((sg.map D.str).length : Nat))) = _
    rw [List.length_map]
  · show some (W.fr (.bl (decide ((1 : Int) < (sg.length : Nat))))) = _
    rw [decide_eq_true (by omega)]
  · rw [eq_ok g.hs hs', decide_eq_false (rev_ne hn (by omega))]
/-! ### a word's turn -/
theorem join_loud {sg : List Str} (hx : ∀ z ∈ sg, z ∈ allL) {l : List Nat} (w : Wx l) {out : List Str} (e : readL (mem sg) l = some out) : rvJoin (.fr (.str "")) [.fr (.lst (out.map .str))] = some (.fr (.str (sx (loud l)))) := by
  have hl := readL_loud (noq hx) e
  have h2 := w.h2
  have e1 : (W.asLr (.fr (.lst (out.map D.str)))).bind strsD = some out := strsD_map
  show (match (W.asLr (.fr (.lst (out.map D.str)))).bind strsD with
    | some ys => if (ys.map (fun z : Str => z.length)).sum + ys.length * ("" : Str).length ≤ 16777216 then some (W.fr (.str (Txt.join "" ys))) else none
    | none => none) = _
  rw [e1]
  dsimp only
  have hs : (out.map (fun z : Str => z.length)).sum = (loud l).length := by
    rw [← hl, List.length_flatten, List.map_map]
    have : (fun z : Str => z.length) = List.length ∘ unx := by
      funext z
      show z.cps.size = z.cps.toList.length
      simp
    rw [this]
  have hle : (loud l).length ≤ l.length := Nat.le_trans (List.length_filter_le ..) (List.length_filter_le ..)
  have z0 : ("" : Str).length = 0 := rfl
  rw [if_pos (by rw [hs, z0]; omega), join_gen, hl]
theorem text_turn {sg : List Str} (hx : ∀ z ∈ sg, z ∈ allL) (g : Sg sg) {l : List Nat} (w : Wx l) (s0 dc s4 s6 : Option W) : ∃ r6, RnS b_law_2 (WS s0 dc sg s4 (some (.fr (.str (sx l)))) s6) .nx (WS s0 dc sg s4 (some (.fr (.str (sx l)))) r6) := by
  have h2 := w.h2
  have hrd := read_ok (sg := .lst (sg.map .str)) g.hm g.hmem (l := l) w.lt (by omega)
  have a1 : RnS (mAsgS 6 (mCallF F__law_read (mCons (mTmp (mVar 2)) (mCons (mTmp (mVar 5)) (mNil))))) (WS s0 dc sg s4 (some (.fr (.str (sx l)))) s6) .nx (WS s0 dc sg s4 (some (.fr (.str (sx l)))) (some (.fr (readV (readL (mem sg) l))))) :=
    RnS.to (rns_asgS (i := 6) (ev_callF (S1 := WS s0 dc sg s4 (some (.fr (.str (sx l)))) s6) (ev_cons (ev_tmp (ev_varS (d := .lst (sg.map .str)) rfl)) (ev_cons (ev_tmp (ev_varS (d := .str (sx l)) rfl)) ev_nil)) rfl hrd rfl) (Nat.le_of_ble_eq_true rfl)) rfl
  have bad : readV (readL (mem sg) l) = .non → ∃ r6, RnS b_law_2 (WS s0 dc sg s4 (some (.fr (.str (sx l)))) s6) .nx (WS s0 dc sg s4 (some (.fr (.str (sx l)))) r6) := fun hv => by
    rw [hv] at a1
    refine ⟨some (.fr .non), rns_seq a1 (rns_seq (S1 := WS s0 dc sg s4 (some (.fr (.str (sx l)))) (some (.fr .non))) ?_ ?_)⟩
    · refine rns_if (t := false) (ev_test (ev_op2 (x := .fr (refD "BadWord")) (y := .fr (refD "BadWord")) (ev_tmp (toldX (methX (S1 := WS s0 dc sg s4 (some (.fr (.str (sx l)))) (some (.fr .non))) (ev_slot rfl) rfl rfl (ev_cons (ev_tmp (ev_varS (d := .str (sx l)) rfl)) ev_nil) rfl (read_x (noW_x g w hv)) rfl) tD)) (ev_tmp (ev_if (t := false) (ev_test (ev_op2 (ev_slot rfl) (ev_tmp ev_pure) rfl rfl rfl)) (fun h => nomatch h) fun _ => ?_)) rfl rfl (by kernel_rfl))) (fun h => nomatch h) fun _ => rfl
      exact ev_call (ws := [.fr (.str "refused"), .fr (.str "BadWord")]) (ev_cons (ev_tmp ev_pure) (ev_cons (ev_tmp ev_pure) ev_nil)) rfl (by kernel_rfl)
    · exact rns_if (t := false) (ev_and (s := false) (S1 := WS s0 dc sg s4 (some (.fr (.str (sx l)))) (some (.fr .non))) (ev_test (ev_op2 (ev_slot rfl) (ev_tmp ev_pure) rfl rfl rfl)) (fun h => nomatch h) fun _ => ⟨rfl, rfl⟩) (fun h => nomatch h) fun _ => rfl
  cases e : readL (mem sg) l with
  | none => exact bad (by rw [e]; rfl)
  | some out =>
    cases out with
    | nil => exact bad (by rw [e]; rfl)
    | cons o out =>
      rw [e] at a1
      have hs : ∀ x ∈ o :: out, PyData.strOk x = true := (readL_ok g.hmem e).1
      refine ⟨some (.fr (readV (some (o :: out)))), rns_seq a1 (rns_seq (S1 := WS s0 dc sg s4 (some (.fr (.str (sx l)))) (some (.fr (readV (some (o :: out)))))) ?_ ?_)⟩
      · refine rns_if (t := false) (ev_test (ev_op2 (x := .fr (readV (some (o :: out)))) (y := .fr (readV (some (o :: out)))) (ev_tmp (w := .fr (readV (some (o :: out)))) (S1 := WS s0 dc sg s4 (some (.fr (.str (sx l)))) (some (.fr (readV (some (o :: out)))))) ?_) (ev_tmp (ev_if (t := true) (ev_test (ev_op2 (ev_slot rfl) (ev_tmp ev_pure) rfl rfl rfl)) (fun _ => ev_varS (d := readV (some (o :: out))) rfl) fun h => nomatch h)) rfl rfl (rvNe_ok (b := true) (eqD_self (ok_lst (n := 0) (strs_ok hs)) (by decide))))) (fun h => nomatch h) fun _ => rfl
        have hc : Rn (mMethF "Alphabet" "read" F_Alphabet_d_read (mSlot 3) (mCons (mTmp (mVar 5)) (mNil))) (WS s0 dc sg s4 (some (.fr (.str (sx l)))) (some (.fr (readV (some (o :: out)))))) (.fr (readV (some (o :: out)))) (WS s0 dc sg s4 (some (.fr (.str (sx l)))) (some (.fr (readV (some (o :: out)))))) :=
          ev_meth (S1 := WS s0 dc sg s4 (some (.fr (.str (sx l)))) (some (.fr (readV (some (o :: out)))))) (ev_slot rfl) rfl rfl (ev_cons (ev_tmp (ev_varS (d := .str (sx l)) rfl)) ev_nil) rfl (readX g w e) rfl
        unfold Rn mTold
        unfold Rn at hc
        rw [hc]
      · have hj := join_loud hx w e
        have hm : Rn (mRepl "'" "" (mRepl "-" "" (mVar 5))) (WS s0 dc sg s4 (some (.fr (.str (sx l)))) (some (.fr (readV (some (o :: out)))))) (.fr (.str (sx (loud l)))) (WS s0 dc sg s4 (some (.fr (.str (sx l)))) (some (.fr (readV (some (o :: out)))))) := by
          have hf : (l.filter fun c => decide (c ≠ 45)).length ≤ l.length := List.length_filter_le ..
          have z0 : ("" : Str).length = 0 := rfl
          refine ev_bind (u := W.fr (.str (sx (l.filter fun c => decide (c ≠ 45))))) (S1 := WS s0 dc sg s4 (some (.fr (.str (sx l)))) (some (.fr (readV (some (o :: out)))))) (ev_bind (u := W.fr (.str (sx l))) (S1 := WS s0 dc sg s4 (some (.fr (.str (sx l)))) (some (.fr (readV (some (o :: out)))))) (ev_varS (d := .str (sx l)) rfl) ?_) ?_
          · show (if (sx l).length + ((sx l).length + 1) * ("" : Str).length ≤ 16777216 then some (Res.ok (W.fr (.str (Txt.replace (sx l) "-" ""))), _) else none) = _
            rw [if_pos (by rw [sx_len, z0]; omega), replace1 (c := 45) (y := "-") rfl]
          · show (if (sx (l.filter fun c => decide (c ≠ 45))).length + ((sx (l.filter fun c => decide (c ≠ 45))).length + 1) * ("" : Str).length ≤ 16777216 then some (Res.ok (W.fr (.str (Txt.replace (sx (l.filter fun c => decide (c ≠ 45))) "'" ""))), _) else none) = _
            rw [if_pos (by rw [sx_len, z0]; omega), replace1 (c := 39) (y := "'") rfl]; rfl
        have hlo : PyData.strOk (sx (loud l)) = true := strOk_lt fun c hc => w.lt c (List.mem_filter.mp (List.mem_filter.mp hc).1).1
        refine rns_if (t := false) (ev_and (s := true) (S1 := WS s0 dc sg s4 (some (.fr (.str (sx l)))) (some (.fr (readV (some (o :: out)))))) (ev_test (ev_op2 (ev_slot rfl) (ev_tmp ev_pure) rfl rfl rfl)) (fun _ => ev_test (ev_op2 (x := .fr (.str (sx (loud l)))) (y := .fr (.str (sx (loud l)))) (ev_tmp (ev_bm (x := .fr (.str "")) (x' := .fr (.str "")) (ws := [.fr (readV (some (o :: out)))]) (ev_tmp ev_pure) rfl rfl (ev_cons (ev_slot rfl) ev_nil) rfl rfl hj)) (ev_tmp hm) rfl rfl (rvNe_ok (b := true) (eqD_self (ok_str (n := 0) hlo) (by decide))))) fun h => nomatch h) (fun h => nomatch h) fun _ => rfl

/-! ### one round -/
theorem pool_x : ∀ t ∈ poolS, ∃ l, t = sx l ∧ Wx l := by
  intro t ht
  simp only [poolS, List.mem_cons, List.not_mem_nil, or_false] at ht
  rcases ht with rfl | rfl | rfl | rfl | rfl | rfl | rfl | rfl | rfl | rfl | rfl | rfl
  · exact ⟨[97], rfl, by decide, by decide, by decide⟩
  · exact ⟨[97, 98], rfl, by decide, by decide, by decide⟩
  · exact ⟨[98, 97], rfl, by decide, by decide, by decide⟩
  · exact ⟨[97, 98, 99], rfl, by decide, by decide, by decide⟩
  · exact ⟨[99, 97, 98], rfl, by decide, by decide, by decide⟩
  · exact ⟨[98, 97, 100], rfl, by decide, by decide, by decide⟩
  · exact ⟨[100, 97, 98], rfl, by decide, by decide, by decide⟩
  · exact ⟨[97, 98, 98, 97], rfl, by decide, by decide, by decide⟩
  · exact ⟨[100, 97, 45, 98], rfl, by decide, by decide, by decide⟩
  · exact ⟨[100, 39, 97, 98], rfl, by decide, by decide, by decide⟩
  · exact ⟨[99, 99], rfl, by decide, by decide, by decide⟩
  · exact ⟨[97, 99, 100], rfl, by decide, by decide, by decide⟩
theorem anyX (x y : Int) : ∃ (l : List Nat) (x' y' : Int), Wx l ∧ F__law_any [.lst [.fr (.int x), .fr (.int y)]] = some (.ok (.fr (.str (sx l))), [.lst [.fr (.int x'), .fr (.int y')]]) := by
  obtain ⟨t, x', y', ht, e⟩ := any_gen (P := F__law_pool) (R := F__law_roll) (by kernel_rfl) roll_eq x y
  obtain ⟨l, rfl, w⟩ := pool_x t ht
  exact ⟨l, x', y', w, e⟩
theorem Wx.of {l : List Nat} (h1 : 1 ≤ l.length) (h2 : l.length ≤ 12) (hc : ∀ c ∈ l, okC c = true) : Wx l := ⟨h1, h2, fun c h => by unfold okX; rw [hc c h]; rfl⟩
abbrev dice (x y : Int) : Option W := some (.lst [.fr (.int x), .fr (.int y)])
theorem plain (ns : List Int) (h : ns.length ≤ 63) : ∃ ws, F_law [.fr (.scr ns)] = some (.ok (.fr (.bl true)), ws) := by
  refine law_frame (n := 5) (most := 5) (R := F__law_rounds) (body := b_law_9) h (by kernel_rfl) (by decide) (by decide) fun s0 x y rest hl => ?_
  match rest, hl with
  | [s2, s3, s4, s5, s6], _ =>
    obtain ⟨sg, ext, x1, y1, he, hp, eL⟩ := letters_ok x y
    have g := sg_of he hp
    have hnd := exts_nodup _ he
    have hlen : sg.length = (baseL ++ ext).length := hp.length_eq
    have h4 : 4 ≤ sg.length := by rw [hlen, List.length_append]; show 4 ≤ 4 + _; omega
    have h30 : sg.length ≤ 30 := by rw [hlen]; have := hnd.2; omega
    have hx : ∀ z ∈ sg, z ∈ allL := fun z hz => exts_all _ he z (hp.mem_iff.mp hz)
    have hn : sg.Nodup := hp.nodup_iff.mpr hnd.1
    obtain ⟨eo, to⟩ := init_lst (sg := sg) hx hn (by omega) h30
    obtain ⟨c1, x2, y2, hc1, ⟨l1, u1⟩, e1⟩ := word_drawn x1 y1
    obtain ⟨l2, x3, y3, w2, e2⟩ := anyX x2 y2
    obtain ⟨c3, x4, y4, hc3, ⟨l3, u3⟩, e3⟩ := word_drawn x3 y3
    have w1 : Wx c1 := .of l1 (by omega) hc1
    have w3 : Wx (c3 ++ [120]) := ⟨by simp, by simp; omega, fun c h => by
      rcases List.mem_append.mp h with h | h
      · unfold okX; rw [hc3 c h]; rfl
      · rw [List.mem_singleton.mp h]; rfl⟩
    have a1 : RnS (mAsgS 2 (mCallF F__law_letters_in (mCons (mSlot 1) (mNil)))) [s0, dice x y, s2, s3, s4, s5, s6] .nx [s0, dice x1 y1, some (.fr (.lst (sg.map .str))), s3, s4, s5, s6] :=
      RnS.to (rns_asgS (i := 2) (ev_callF (S1 := [s0, dice x y, s2, s3, s4, s5, s6]) (S3 := [s0, dice x1 y1, s2, s3, s4, s5, s6]) (ev_cons (ev_slot rfl) ev_nil) rfl eL rfl) (Nat.le_of_ble_eq_true rfl)) rfl
    have a2 : RnS (mAsgS 3 (mMake "Alphabet" F_Alphabet_d___init__ (mCons (mTmp (mVar 2)) (mNil)))) [s0, dice x1 y1, some (.fr (.lst (sg.map .str))), s3, s4, s5, s6] .nx (WS s0 (dice x1 y1) sg s4 s5 s6) := by
      refine RnS.to (rns_asgS (i := 3) (ev_make (S1 := [s0, dice x1 y1, some (.fr (.lst (sg.map .str))), s3, s4, s5, s6]) (ev_cons (ev_tmp (ev_varS (d := .lst (sg.map .str)) rfl)) ev_nil) rfl eo rfl) (Nat.le_of_ble_eq_true rfl)) ?_
      rw [to]; rfl
    have a5 : RnS (mAsgS 4 (mWrap .lst (mCons (mTmp (mCallF F__law_drawn_word (mCons (mSlot 1) (mNil)))) (mCons (mTmp (mCallF F__law_any (mCons (mSlot 1) (mNil)))) (mCons (mTmp (mSet (mOp2 rvAdd (mTmp (mCallF F__law_drawn_word (mCons (mSlot 1) (mNil)))) (mTmp (pureM (.fr (.str "x"))))))) (mCons (mTmp (pureM (.fr (.str "--")))) (mCons (mTmp (pureM (.fr (.str "'")))) (mNil)))))))) (WS s0 (dice x1 y1) sg s4 s5 s6) .nx (WS s0 (dice x4 y4) sg (some (.fr (.lst ([c1, l2, c3 ++ [120], [45, 45], [39]].map fun l => .str (sx l))))) s5 s6) := by
      refine RnS.to (rns_asgS (i := 4) (ev_wrap (S1 := WS s0 (dice x4 y4) sg s4 s5 s6) (os := [.tmp (.fr (.str (sx c1))), .tmp (.fr (.str (sx l2))), .tmp (.fr (.str (sx (c3 ++ [120])))), .tmp (.fr (.str (sx [45, 45]))), .tmp (.fr (.str (sx [39])))]) (ws := [.fr (.str (sx c1)), .fr (.str (sx l2)), .fr (.str (sx (c3 ++ [120]))), .fr (.str (sx [45, 45])), .fr (.str (sx [39]))]) ?_ rfl (size100 (by show 5 ≤ 100; omega))) (Nat.le_of_ble_eq_true rfl)) rfl
      refine ev_cons (ev_tmp (ev_callF (S1 := WS s0 (dice x1 y1) sg s4 s5 s6) (S3 := WS s0 (dice x2 y2) sg s4 s5 s6) (ev_cons (ev_slot rfl) ev_nil) rfl e1 rfl)) (ev_cons (ev_tmp (ev_callF (S1 := WS s0 (dice x2 y2) sg s4 s5 s6) (S3 := WS s0 (dice x3 y3) sg s4 s5 s6) (ev_cons (ev_slot rfl) ev_nil) rfl e2 rfl)) (ev_cons (ev_tmp (ev_set (w := .fr (.str (sx (c3 ++ [120])))) (ev_op2 (x := .fr (.str (sx c3))) (y := .fr (.str (sx [120]))) (ev_tmp (ev_callF (S1 := WS s0 (dice x3 y3) sg s4 s5 s6) (S3 := WS s0 (dice x4 y4) sg s4 s5 s6) (ev_cons (ev_slot rfl) ev_nil) rfl e3 rfl)) (ev_tmp ev_pure) rfl rfl (add_s (by omega) (by show 1 ≤ 100; omega))))) (ev_cons (ev_tmp ev_pure) (ev_cons (ev_tmp ev_pure) ev_nil))))
    have a6 : RnS (mAsgS 4 (mOp2 rvAdd (mSlot 4) (mTmp (mWrap .lst (mCons (mTmp (pureM (.fr (.str "ccab")))) (mCons (mTmp (pureM (.fr (.str "dabb")))) (mNil))))))) (WS s0 (dice x4 y4) sg (some (.fr (.lst ([c1, l2, c3 ++ [120], [45, 45], [39]].map fun l => .str (sx l))))) s5 s6) .nx (WS s0 (dice x4 y4) sg (some (.fr (.lst ([c1, l2, c3 ++ [120], [45, 45], [39], [99, 99, 97, 98], [100, 97, 98, 98]].map fun l => .str (sx l))))) s5 s6) := by
      refine RnS.to (rns_asgS (i := 4) (S1 := WS s0 (dice x4 y4) sg (some (.fr (.lst ([c1, l2, c3 ++ [120], [45, 45], [39]].map fun l => .str (sx l))))) s5 s6) (w := newL (([c1, l2, c3 ++ [120], [45, 45], [39], [99, 99, 97, 98], [100, 97, 98, 98]].map fun l => D.str (sx l)))) (ev_op2 (x := .fr (.lst ([c1, l2, c3 ++ [120], [45, 45], [39]].map fun l => .str (sx l)))) (y := .lst [.fr (.str "ccab"), .fr (.str "dabb")]) (ev_slot rfl) (ev_tmp (ev_wrap (os := [.tmp (.fr (.str "ccab")), .tmp (.fr (.str "dabb"))]) (ev_cons (ev_tmp ev_pure) (ev_cons (ev_tmp ev_pure) ev_nil)) rfl (size100 (by show 2 ≤ 100; omega)))) rfl rfl (rvAdd_ll (ds := [c1, l2, c3 ++ [120], [45, 45], [39]].map fun l => D.str (sx l)) (es := [.str "ccab", .str "dabb"]) rfl rfl (size100 (by show 5 + 2 ≤ 100; omega)))) (Nat.le_of_ble_eq_true rfl)) ?_
      rw [toD_new]; rfl
    have hall : ∀ l ∈ [c1, l2, c3 ++ [120], [45, 45], [39], [99, 99, 97, 98], [100, 97, 98, 98]], Wx l := by
      intro l hl
      simp only [List.mem_cons, List.not_mem_nil, or_false] at hl
      rcases hl with rfl | rfl | rfl | rfl | rfl | rfl | rfl
      · exact w1
      · exact w2
      · exact w3
      · exact ⟨by decide, by decide, by decide⟩
      · exact ⟨by decide, by decide, by decide⟩
      · exact ⟨by decide, by decide, by decide⟩
      · exact ⟨by decide, by decide, by decide⟩
    generalize [c1, l2, c3 ++ [120], [45, 45], [39], [99, 99, 97, 98], [100, 97, 98, 98]] = cases at a6 hall
    obtain ⟨S2, e7, t5, t6, rfl⟩ := forL_inv (b := bName 5) (body := b_law_2) (all := cases.map fun l => D.str (sx l)) (fun _ S => ∃ t5 t6 : Option W, S = WS s0 (dice x4 y4) sg (some (.fr (.lst (cases.map fun l => .str (sx l))))) t5 t6)
      (fun done d rest S ha hI => by
        obtain ⟨t5, t6, rfl⟩ := hI
        have hd : d ∈ cases.map fun l => D.str (sx l) := by rw [← ha]; simp
        obtain ⟨l, hl, rfl⟩ := List.mem_map.mp hd
        obtain ⟨r6, q⟩ := text_turn hx g (hall l hl) s0 (dice x4 y4) (some (.fr (.lst (cases.map fun l => .str (sx l))))) t6
        exact ⟨_, _, rfl, q, _, _, rfl⟩)
      (ds := cases.map fun l => D.str (sx l)) (done := []) (S := WS s0 (dice x4 y4) sg (some (.fr (.lst (cases.map fun l => .str (sx l))))) s5 s6) rfl ⟨_, _, rfl⟩
    refine ⟨_, rns_seq a1 (rns_seq a2 (rns_seq (alike_turn hx g hn h4 h30 s0 (dice x1 y1) s4 s5 s6) (rns_seq (other_turn hx g hn h4 h30 s0 (dice x1 y1) s4 s5 s6) (rns_seq a5 (rns_seq a6 (rns_for (ev_items (ev_varS (d := .lst (cases.map fun l => .str (sx l))) rfl) rfl) e7)))))), rfl, rfl⟩
end Lw
open PySem PySem.W PySem.Calls PyProof.Rows
theorem PySem.Challenge.cw_wordkeepers_k01_whole_letters_read_holds : PySem.Challenge.rw_wordkeepers_k01_whole_letters_read.Holds := by
  w_on; o_law
  refine HandSHeadRun.head_any (r := OpenLaw.row PySem.Challenge.rw_wordkeepers_k01_whole_letters_read) (q := view (OpenLaw.row PySem.Challenge.rw_wordkeepers_k01_whole_letters_read).prog [38]) (H := Lw.hk) (ob := Lw.ob) (M := 8000) (loose := Lw.names) (d := HandSHeadRun.topDef (OpenLaw.row PySem.Challenge.rw_wordkeepers_k01_whole_letters_read).prog 38) (kwd := []) Lw.ob_eq
    (by kernel_rfl) (fun s => by kernel_rfl) Lw.run (by kernel_rfl) (by kernel_rfl) (by kernel_rfl) (by rfl) (by first | assumption | decide +kernel) (by decide +kernel) ⟨rfl, rfl, rfl, rfl, rfl, by decide +kernel⟩ ?hw ?hc
  case hw => w_witness2
  case hc =>
    refine VD.walk_ofX (l := PySem.Challenge.rw_wordkeepers_k01_whole_letters_read) (n := 63) (k := 7) (x := "_law_script") rfl (by decide) (by kernel_rfl) ⟨rfl, by decide, by decide⟩ ?F
    intro w mg fa h Y G hmg0
    obtain ⟨K, KX, c⟩ := Y
    have hmg : mg ("law" : PySem.Str) = some (.ref fa) := by
      have e : (HandSHeadRun.topDef (OpenLaw.row PySem.Challenge.rw_wordkeepers_k01_whole_letters_read).prog 38).name = ("law" : PySem.Str) := by kernel_rfl
      rw [← e]
      exact hmg0
    obtain ⟨fd, hb, hsp, hF⟩ := Lw.facts (P := (PySem.Challenge.rw_wordkeepers_k01_whole_letters_read).prog) (w := w) Lw.plain KX G hmg c
    refine ⟨K, Lw.tfs.map (He.cT K), fd, VD.spV ⟨K, mg, ⟨VD.tabL K Lw.tfq, none, none⟩⟩ Lw.F_law, KX, fun p hp => ?_, fun p hp => ?_, fun p hp => ?_, hb, hsp, hF⟩
    · obtain ⟨r, hr, rfl⟩ := List.mem_map.mp hp
      exact c.empty r hr
    · obtain ⟨r, hr, rfl⟩ := List.mem_map.mp hp
      exact c.out r hr
    · obtain ⟨r, hr, rfl⟩ := List.mem_map.mp hp
      exact PySem.W.codeHd_of_K KX (c.hd r hr)
