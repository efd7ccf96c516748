import PyProof.Rows.All
import Wide.All
import OpenK.AllK
import Wide.FinOn
import HandS.ForMost
import HandS.ForExc
import HandS.Walk
import HandS.TupAny
import HandS.TupMul
import HandS.Conv
import HandS.IsInst
import HandS.Zip
import HandS.Lambda
import HandS.EndTab
import HandS.Style
import HandS.Wide
import KE.SortKeyHeap
import HandS.Sort
import HandS.SortKw
import KE.GoesZip
import KE.GoesEnum
import KE.GoesMore
import KE.GoesEnumKw
import KE.KDictZip
import KE.KItemsList
import HandS.SetBool
import HandS.Strs
import KE.KDictWalk
import KE.KEqDict
import HandS.DictTup
import PyProof.Rows.TupDisplay
import HandS.ExcIs
import PySem.Challenge.RW_nightsheld_k77_whole_inns_keep_their_wor
set_option Elab.async false
set_option linter.all false
set_option maxRecDepth 100000
set_option maxHeartbeats 4000000
set_option autoImplicit false
/-! N: what an expression gives, told by data; the heap only grows. -/
namespace N
open PySem L2 LamX

/-! ### growth -/
abbrev St := L2.St
abbrev Tbl := List (Addr × Str)
def Gr (T : Tbl) (H H' : Hp) : Prop := ExtN H H' ∧ (Tabs T H → Tabs T H')
theorem Gr.refl {T : Tbl} (H : Hp) : Gr T H H := ⟨ExtN.refl H, fun t => t⟩
theorem Gr.trans {T : Tbl} {H H1 H2 : Hp} (a : Gr T H H1) (b : Gr T H1 H2) : Gr T H H2 := ⟨a.1.trans b.1, fun t => b.2 (a.2 t)⟩
theorem Gr.of {T : Tbl} {H H' : Hp} (e : ∀ b o, H b = some o → H' b = some o) : Gr T H H' := ⟨ExtN.of e, fun t => t.ext e⟩
theorem Gr.new {T : Tbl} {H : Hp} {p : Addr} {o : HO} (h : H p = none) : Gr T H (upd H p o) := Gr.of fun b u e => by
  rw [upd_ne (ne_of_none e h)]; exact e
/-- objects that may be written -/
def Mt : HO → Prop
  | .lst _ => True
  | .dK _ => True
  | .dT _ => True
  | .ins _ _ _ => True
  | _ => False
theorem Mt.ntbl {o : HO} (m : Mt o) : ∀ ps, o ≠ .tbl ps := fun ps e => by subst e; exact m
/-- a written object changes -/
theorem Gr.mut {T : Tbl} {H H' : Hp} {p : Addr} {o u : HO} (g : Gr T H H') (h : H p = none) (hp : H' p = some o) (m : Mt o) : Gr T H (upd H' p u) := by
  refine ⟨fun b v e n => ?_, fun t => ?_⟩
  · rw [upd_ne (ne_of_none e h)]; exact g.1 b v e n
  · have t' := g.2 t
    intro q hq
    obtain ⟨ps, h1, h2, h3⟩ := t' q hq
    have nP : q.1 ≠ p := fun z => by
      rw [z, hp] at h1
      exact m.ntbl ps (Option.some.inj h1)
    refine ⟨ps, by rw [upd_ne nP]; exact h1, h2, fun pos cv hc => ?_⟩
    obtain ⟨c, e1, e2⟩ := h3 pos cv hc
    have nc : c ≠ p := fun z => by
      rw [z, hp] at e2
      have e3 := Option.some.inj e2
      rw [e3] at m
      exact m
    exact ⟨c, e1, by rw [upd_ne nc]; exact e2⟩
/-- what is new behind is new ahead, where it is no table -/
def Sok (S : Addr → Prop) (H : Hp) : Prop := ∀ a, S a → ∃ o, H a = some o ∧ Mt o
theorem Sok.mono {T : Tbl} {S : Addr → Prop} {H H' : Hp} (g : Gr T H H') (s : Sok S H) : Sok S H' := fun a h => by
  obtain ⟨o, e, m⟩ := s a h
  exact ⟨o, g.1 a o e m.ntbl, m⟩
theorem Sok.fresh {S : Addr → Prop} {H : Hp} {p : Addr} (s : Sok S H) (h : H p = none) : ¬ S p := fun z => by
  obtain ⟨o, e, _⟩ := s p z
  rw [h] at e
  cases e
theorem Sok.empty {H : Hp} : Sok (fun _ => False) H := fun _ h => h.elim

/-! ### data -/
/-- a list that is none of S -/
def SL (K : PySem.W.Frag) (S : Addr → Prop) (H : Hp) (a : Addr) (xs : List V) : Prop :=
  (¬ S a ∧ Rd H a (.lst xs)) ∨
    ∃ (o : Obj) (its : Array Value) (n : Nat), K.lookup a = some o ∧ o.cls = .type "list" ∧ o.dict = none ∧ o.data = .seq its n ∧ its.size ≤ sizeLine ∧ Vals xs its.toList
section
variable {K : PySem.W.Frag} {S S' : Addr → Prop} {H H' : Hp} {T : Tbl} {a : Addr} {xs : List V}
theorem SL.sq (h : SL K S H a xs) : SqL K H a xs := by
  rcases h with ⟨_, h⟩ | h
  · exact .inl h
  · exact .inr h
theorem Rd.grow {u : HO} (g : Gr T H H') (n : ∀ ps, u ≠ .tbl ps) (h : Rd H a u) : Rd H' a u := by
  rcases h with h | ⟨o, h⟩
  · exact .inl (g.1 a _ h n)
  · exact .inr ⟨o, g.1 a _ h fun ps z => by cases z⟩
theorem SL.grow (g : Gr T H H') (h : SL K S H a xs) : SL K S H' a xs := by
  rcases h with ⟨n, h⟩ | h
  · exact .inl ⟨n, Rd.grow g (fun ps z => by cases z) h⟩
  · exact .inr h
theorem SqT.grow (g : Gr T H H') (h : SqT K H a xs) : SqT K H' a xs := by
  rcases h with h | h
  · exact .inl (Rd.grow g (fun ps z => by cases z) h)
  · exact .inr h
theorem SqL.grow (g : Gr T H H') (h : SqL K H a xs) : SqL K H' a xs := by
  rcases h with h | h
  · exact .inl (Rd.grow g (fun ps z => by cases z) h)
  · exact .inr h
theorem SL.more (hs : ∀ b, S' b → S b ∨ H b = none) (h : SL K S H a xs) : SL K S' H a xs := by
  rcases h with ⟨n, h⟩ | h
  · refine .inl ⟨fun z => ?_, h⟩
    rcases hs a z with z | z
    · exact n z
    · rcases h with h | ⟨o, h⟩ <;> (rw [z] at h; cases h)
  · exact .inr h
theorem SL.new (s : Sok S H) {p : Addr} (h : H p = none) : SL K S (upd H p (.lst xs)) p xs := .inl ⟨s.fresh h, .inl upd_same⟩
/-- a written object changes: another list stays -/
theorem SL.mut {p : Addr} {o u : HO} (hp : H p = some o) (hS : S p) (hf : ∀ q v, o ≠ .frz q v) (h : SL K S H a xs) : SL K S (upd H p u) a xs := by
  rcases h with ⟨n, h⟩ | h
  · have np : a ≠ p := fun z => n (by rw [z]; exact hS)
    refine .inl ⟨n, ?_⟩
    rcases h with h | ⟨q, h⟩
    · exact .inl (by rw [upd_ne np]; exact h)
    · exact .inr ⟨q, by rw [upd_ne np]; exact h⟩
  · exact .inr h
theorem SqT.mut {p : Addr} {o u : HO} (hp : H p = some o) (m : Mt o) (h : SqT K H a xs) : SqT K (upd H p u) a xs := by
  rcases h with h | h
  · refine .inl ?_
    rcases h with h | ⟨q, h⟩
    · refine .inl ?_
      rw [upd_ne (fun z => ?_)]
      · exact h
      · rw [z, hp] at h
        rw [Option.some.inj h] at m
        exact m
    · refine .inr ⟨q, ?_⟩
      rw [upd_ne (fun z => ?_)]
      · exact h
      · rw [z, hp] at h
        rw [Option.some.inj h] at m
        exact m
  · exact .inr h
end

mutual
/-- v is the data d in H; its lists are none of S -/
inductive Rp (K : PySem.W.Frag) (S : Addr → Prop) (H : Hp) : V → PyData → Prop
  | non : Rp K S H .non .none
  | bl (b : Bool) : Rp K S H (.bl b) (.bool b)
  | int (i : Int) : Rp K S H (.int i) (.int i)
  | str (x : Str) : Rp K S H (.str x) (.str x)
  | lst {a : Addr} {xs : List V} {ds : List PyData} : SL K S H a xs → RpA K S H xs ds → Rp K S H (.ref a) (.list ds)
  | tup {a : Addr} {xs : List V} {ds : List PyData} : SqT K H a xs → RpA K S H xs ds → Rp K S H (.ref a) (.tuple ds)
inductive RpA (K : PySem.W.Frag) (S : Addr → Prop) (H : Hp) : List V → List PyData → Prop
  | nil : RpA K S H [] []
  | cons {v : V} {vs : List V} {d : PyData} {ds : List PyData} : Rp K S H v d → RpA K S H vs ds → RpA K S H (v :: vs) (d :: ds)
end
section
variable {K : PySem.W.Frag} {S S' : Addr → Prop} {H H' : Hp} {T : Tbl}
mutual
theorem Rp.dp : ∀ {v : V} {d : PyData}, Rp K S H v d → Dp K H v d
  | _, _, .non => .non
  | _, _, .bl b => .bl b
  | _, _, .int i => .int i
  | _, _, .str x => .str x
  | _, _, .lst h r => .lst h.sq (RpA.dp r)
  | _, _, .tup h r => .tup h (RpA.dp r)
theorem RpA.dp : ∀ {vs : List V} {ds : List PyData}, RpA K S H vs ds → DpAll K H vs ds
  | _, _, .nil => .nil
  | _, _, .cons h r => .cons (Rp.dp h) (RpA.dp r)
end
mutual
theorem Rp.keep (h1 : ∀ a xs, SL K S H a xs → SL K S' H' a xs) (h2 : ∀ a xs, SqT K H a xs → SqT K H' a xs) : ∀ {v : V} {d : PyData}, Rp K S H v d → Rp K S' H' v d
  | _, _, .non => .non
  | _, _, .bl b => .bl b
  | _, _, .int i => .int i
  | _, _, .str x => .str x
  | _, _, .lst h r => .lst (h1 _ _ h) (RpA.keep h1 h2 r)
  | _, _, .tup h r => .tup (h2 _ _ h) (RpA.keep h1 h2 r)
theorem RpA.keep (h1 : ∀ a xs, SL K S H a xs → SL K S' H' a xs) (h2 : ∀ a xs, SqT K H a xs → SqT K H' a xs) : ∀ {vs : List V} {ds : List PyData}, RpA K S H vs ds → RpA K S' H' vs ds
  | _, _, .nil => .nil
  | _, _, .cons h r => .cons (Rp.keep h1 h2 h) (RpA.keep h1 h2 r)
end
theorem Rp.grow (g : Gr T H H') {v : V} {d : PyData} (h : Rp K S H v d) : Rp K S H' v d := h.keep (fun _ _ => SL.grow g) fun _ _ => SqT.grow g
theorem RpA.grow (g : Gr T H H') {v : List V} {d : List PyData} (h : RpA K S H v d) : RpA K S H' v d := h.keep (fun _ _ => SL.grow g) fun _ _ => SqT.grow g
theorem Rp.more (hs : ∀ b, S' b → S b ∨ H b = none) {v : V} {d : PyData} (h : Rp K S H v d) : Rp K S' H v d := h.keep (fun _ _ => SL.more hs) fun _ _ h => h
theorem RpA.more (hs : ∀ b, S' b → S b ∨ H b = none) {v : List V} {d : List PyData} (h : RpA K S H v d) : RpA K S' H v d := h.keep (fun _ _ => SL.more hs) fun _ _ h => h
theorem Rp.mut {p : Addr} {o u : HO} (hp : H p = some o) (hS : S p) (m : Mt o) {v : V} {d : PyData} (h : Rp K S H v d) : Rp K S (upd H p u) v d :=
  h.keep (fun _ _ => SL.mut hp hS fun q w e => by subst e; exact m) fun _ _ => SqT.mut hp m
theorem RpA.mut {p : Addr} {o u : HO} (hp : H p = some o) (hS : S p) (m : Mt o) {v : List V} {d : List PyData} (h : RpA K S H v d) : RpA K S (upd H p u) v d :=
  h.keep (fun _ _ => SL.mut hp hS fun q w e => by subst e; exact m) fun _ _ => SqT.mut hp m
theorem RpA.length : ∀ {vs : List V} {ds : List PyData}, RpA K S H vs ds → vs.length = ds.length
  | _, _, .nil => rfl
  | _, _, .cons _ r => by rw [List.length_cons, List.length_cons, r.length]
theorem RpA.append : ∀ {vs ws : List V} {ds es : List PyData}, RpA K S H vs ds → RpA K S H ws es → RpA K S H (vs ++ ws) (ds ++ es)
  | _, _, _, _, .nil, s => s
  | _, _, _, _, .cons h r, s => .cons h (r.append s)
theorem RpA.get : ∀ {vs : List V} {ds : List PyData} {i : Nat} {d : PyData}, RpA K S H vs ds → ds[i]? = some d → ∃ v, vs[i]? = some v ∧ Rp K S H v d
  | _, _, 0, _, .cons h _, e => by
    simp at e
    subst e
    exact ⟨_, rfl, h⟩
  | _, _, i + 1, d, .cons _ r, e => by
    obtain ⟨v, a, b⟩ := RpA.get (i := i) r (by simpa using e)
    exact ⟨v, by simpa using a, b⟩
  | _, _, _, _, .nil, e => by simp at e
theorem RpA.getV : ∀ {vs : List V} {ds : List PyData} {i : Nat} {v : V}, RpA K S H vs ds → vs[i]? = some v → ∃ d, ds[i]? = some d ∧ Rp K S H v d
  | _, _, 0, _, .cons h _, e => by
    simp at e
    subst e
    exact ⟨_, rfl, h⟩
  | _, _, i + 1, d, .cons _ r, e => by
    obtain ⟨v, a, b⟩ := RpA.getV (i := i) r (by simpa using e)
    exact ⟨v, by simpa using a, b⟩
  | _, _, _, _, .nil, e => by simp at e
theorem RpA.drop : ∀ (n : Nat) {vs : List V} {ds : List PyData}, RpA K S H vs ds → RpA K S H (vs.drop n) (ds.drop n)
  | 0, _, _, r => r
  | _ + 1, _, _, .nil => .nil
  | n + 1, _, _, .cons _ r => RpA.drop n r
theorem RpA.take : ∀ (n : Nat) {vs : List V} {ds : List PyData}, RpA K S H vs ds → RpA K S H (vs.take n) (ds.take n)
  | 0, _, _, _ => .nil
  | _ + 1, _, _, .nil => .nil
  | n + 1, _, _, .cons h r => .cons h (RpA.take n r)
theorem RpA.set : ∀ (n : Nat) {vs : List V} {ds : List PyData} {v : V} {d : PyData}, RpA K S H vs ds → Rp K S H v d → RpA K S H (vs.set n v) (ds.set n d)
  | _, _, _, _, _, .nil, _ => .nil
  | 0, _, _, _, _, .cons _ r, q => .cons q r
  | n + 1, _, _, _, _, .cons h r, q => .cons h (RpA.set n r q)
theorem Rp.int_inv {v : V} {i : Int} (h : Rp K S H v (.int i)) : v = .int i := by cases h; rfl
theorem Rp.bl_inv {v : V} {b : Bool} (h : Rp K S H v (.bool b)) : v = .bl b := by cases h; rfl
theorem Rp.str_inv {v : V} {x : Str} (h : Rp K S H v (.str x)) : v = .str x := by cases h; rfl
theorem Rp.non_inv {v : V} (h : Rp K S H v .none) : v = .non := by cases h; rfl
theorem RpA.ints : ∀ {vs : List V} {ns : List Int}, RpA K S H vs (ns.map .int) → vs = ns.map V.int
  | _, [], .nil => rfl
  | _, n :: ns, .cons h r => by rw [h.int_inv, r.ints]; rfl
theorem RpA.bools : ∀ {vs : List V} {ns : List Bool}, RpA K S H vs (ns.map .bool) → vs = ns.map V.bl
  | _, [], .nil => rfl
  | _, n :: ns, .cons h r => by rw [h.bl_inv, r.bools]; rfl
theorem RpA.of_ints : ∀ (ns : List Int), RpA K S H (ns.map V.int) (ns.map .int)
  | [] => .nil
  | n :: ns => .cons (.int n) (RpA.of_ints ns)
end
end N

namespace N
open PySem L2 LamX
/-! ### what a slot bears -/
inductive E where
  | d (p : PyData)
  | ob (x C : Addr) (fs : List (Str × PyData)) (nm : List Str)
  | rf (a : Addr)
def RE (K : PySem.W.Frag) (S : Addr → Prop) (H : Hp) (v : V) : E → Prop
  | .d p => Rp K S H v p
  | .ob x C fds nm => v = .ref x ∧ ∃ dx fs, H x = some (.ins C dx fs) ∧ (∀ f p, fds.lookup f = some p → ∃ u, fs.lookup f = some u ∧ Rp K S H u p) ∧ ∀ m, m ∉ nm → fs.lookup m = none
  | .rf a => v = .ref a
abbrev Sl := List (Option E)
structure SD (K : PySem.W.Frag) (S : Addr → Prop) (H : Hp) (σ : St) (δ : Sl) : Prop where
  len : σ.length = δ.length
  at' : ∀ (i : Nat) (e : E), δ[i]? = some (some e) → ∃ v, σ[i]? = some (some v) ∧ RE K S H v e
structure Ad (K : PySem.W.Frag) (T : Tbl) (S : Addr → Prop) (H : Hp) (σ : St) (δ : Sl) : Prop where
  sok : Sok S H
  tab : Tabs T H
  sd : SD K S H σ δ
section
variable {K : PySem.W.Frag} {T : Tbl} {S S' : Addr → Prop} {H H' : Hp} {σ : St} {δ : Sl}
theorem RE.grow (g : Gr T H H') {v : V} {e : E} (h : RE K S H v e) : RE K S H' v e := by
  cases e with
  | d p => exact Rp.grow g h
  | rf a => exact h
  | ob x C fds nm =>
    obtain ⟨h1, dx, fs, h2, h3, h4⟩ := h
    refine ⟨h1, dx, fs, g.1 _ _ h2 (fun ps z => by cases z), fun f p q => ?_, h4⟩
    obtain ⟨u, a, b⟩ := h3 f p q
    exact ⟨u, a, b.grow g⟩
theorem RE.more (hs : ∀ b, S' b → S b ∨ H b = none) {v : V} {e : E} (h : RE K S H v e) : RE K S' H v e := by
  cases e with
  | d p => exact Rp.more hs h
  | rf a => exact h
  | ob x C fds nm =>
    obtain ⟨h1, dx, fs, h2, h3, h4⟩ := h
    refine ⟨h1, dx, fs, h2, fun f p q => ?_, h4⟩
    obtain ⟨u, a, b⟩ := h3 f p q
    exact ⟨u, a, b.more hs⟩
theorem SD.grow (g : Gr T H H') (h : SD K S H σ δ) : SD K S H' σ δ := ⟨h.len, fun i e q => by
  obtain ⟨v, a, b⟩ := h.at' i e q
  exact ⟨v, a, b.grow g⟩⟩
theorem SD.more (hs : ∀ b, S' b → S b ∨ H b = none) (h : SD K S H σ δ) : SD K S' H σ δ := ⟨h.len, fun i e q => by
  obtain ⟨v, a, b⟩ := h.at' i e q
  exact ⟨v, a, b.more hs⟩⟩
theorem SD.set (h : SD K S H σ δ) (i : Nat) {v : V} {e : E} (r : RE K S H v e) : SD K S H (σ.set i (some v)) (δ.set i (some e)) := by
  refine ⟨by rw [List.length_set, List.length_set, h.len], fun j f q => ?_⟩
  by_cases hj : i = j
  · subst hj
    have hl : i < δ.length := by
      have := (List.getElem?_eq_some_iff.mp q).1
      rwa [List.length_set] at this
    rw [List.getElem?_set_self hl] at q
    cases q
    exact ⟨v, List.getElem?_set_self (by rw [h.len]; exact hl), r⟩
  · rw [List.getElem?_set_ne hj] at q ⊢
    exact h.at' j f q
theorem SD.forget (h : SD K S H σ δ) (i : Nat) {o : Option V} : SD K S H (σ.set i o) (δ.set i none) := by
  refine ⟨by rw [List.length_set, List.length_set, h.len], fun j f q => ?_⟩
  by_cases hj : i = j
  · subst hj
    have hl : i < δ.length := by
      have := (List.getElem?_eq_some_iff.mp q).1
      rwa [List.length_set] at this
    rw [List.getElem?_set_self hl] at q
    cases q
  · rw [List.getElem?_set_ne hj] at q ⊢
    exact h.at' j f q
/-- slots forgotten, as by wipe -/
def wipeD (δ : Sl) : List Nat → Sl
  | [] => δ
  | v :: vs => (wipeD δ vs).set v none
theorem SD.wipe (h : SD K S H σ δ) : ∀ vs : List Nat, SD K S H (L2.wipe σ vs) (wipeD δ vs)
  | [] => h
  | v :: vs => (SD.wipe h vs).forget v
theorem Ad.grow (g : Gr T H H') (h : Ad K T S H σ δ) : Ad K T S H' σ δ := ⟨h.sok.mono g, g.2 h.tab, h.sd.grow g⟩
theorem Ad.set (h : Ad K T S H σ δ) (i : Nat) {v : V} {e : E} (r : RE K S H v e) : Ad K T S H (σ.set i (some v)) (δ.set i (some e)) := ⟨h.sok, h.tab, h.sd.set i r⟩
theorem Ad.wipe (h : Ad K T S H σ δ) (vs : List Nat) : Ad K T S H (L2.wipe σ vs) (wipeD δ vs) := ⟨h.sok, h.tab, h.sd.wipe vs⟩
/-- δ' tells less -/
def Le (δ' δ : Sl) : Prop := δ'.length = δ.length ∧ ∀ (i : Nat) (e : E), δ'[i]? = some (some e) → δ[i]? = some (some e)
theorem Ad.le {δ' : Sl} (l : Le δ' δ) (h : Ad K T S H σ δ) : Ad K T S H σ δ' := ⟨h.sok, h.tab, h.sd.len.trans l.1.symm, fun i e q => h.sd.at' i e (l.2 i e q)⟩
end
inductive REA (K : PySem.W.Frag) (S : Addr → Prop) (H : Hp) : List V → List E → Prop
  | nil : REA K S H [] []
  | cons {v : V} {vs : List V} {d : E} {ds : List E} : RE K S H v d → REA K S H vs ds → REA K S H (v :: vs) (d :: ds)
section
variable {K : PySem.W.Frag} {T : Tbl} {S S' : Addr → Prop} {H H' : Hp} {σ : St} {δ : Sl}
theorem REA.grow (g : Gr T H H') : ∀ {v : List V} {e : List E}, REA K S H v e → REA K S H' v e
  | _, _, .nil => .nil
  | _, _, .cons h r => .cons (h.grow g) (REA.grow g r)
theorem REA.length : ∀ {v : List V} {e : List E}, REA K S H v e → v.length = e.length
  | _, _, .nil => rfl
  | _, _, .cons h r => by rw [List.length_cons, List.length_cons, r.length]
theorem REA.rpa : ∀ {v : List V} {ds : List PyData}, REA K S H v (ds.map .d) → RpA K S H v ds
  | _, [], .nil => .nil
  | _, _ :: _, .cons h r => .cons h r.rpa
theorem REA.get : ∀ {v : List V} {es : List E} {i : Nat} {e : E}, REA K S H v es → es[i]? = some e → ∃ u, v[i]? = some u ∧ RE K S H u e
  | _, _, 0, _, .cons h _, q => by
    simp at q
    subst q
    exact ⟨_, rfl, h⟩
  | _, _, i + 1, _, .cons _ r, q => by
    obtain ⟨u, a, b⟩ := REA.get (i := i) r (by simpa using q)
    exact ⟨u, by simpa using a, b⟩
  | _, _, _, _, .nil, q => by simp at q
/-- the slots at a def's entry -/
def startD (N : List Str) (es : List E) : Sl := es.map some ++ List.replicate (N.length - es.length) none
theorem SD.start {N : List Str} {vs : List V} {es : List E} (h : REA K S H vs es) : SD K S H (L2.start N vs) (startD N es) := by
  refine ⟨by unfold L2.start startD; simp [h.length], fun i e q => ?_⟩
  unfold startD at q
  rw [List.getElem?_append] at q
  split at q
  · rename_i hl
    rw [List.length_map] at hl
    have q' : es[i]? = some e := by
      rw [List.getElem?_map] at q
      cases r : es[i]? with
      | none => rw [r] at q; cases q
      | some z => rw [r] at q; cases q; rfl
    obtain ⟨u, a, b⟩ := h.get q'
    refine ⟨u, ?_, b⟩
    unfold L2.start
    rw [List.getElem?_append_left (by rw [List.length_map, h.length]; exact hl), List.getElem?_map, a]
    rfl
  · rw [List.getElem?_replicate] at q
    split at q <;> cases q
end

/-! ### what a reading gives -/
section
variable (K : PySem.W.Frag) (T : Tbl)
def Ed (t : TE) (δ : Sl) (e : E) : Prop := ∀ (S : Addr → Prop) (σ : St) (H : Hp), Ad K T S H σ δ → ∀ Q : VK, (∀ v H', Gr T H H' → RE K S H' v e → Q v H') → t σ H Q
def Et (t : L2.TT) (δ : Sl) (b : Bool) : Prop := ∀ (S : Addr → Prop) (σ : St) (H : Hp), Ad K T S H σ δ → ∀ Q : Bool → Hp → Prop, (∀ H', Gr T H H' → Q b H') → t σ H Q
def Ea (t : TA) (δ : Sl) (es : List E) : Prop := ∀ (S : Addr → Prop) (σ : St) (H : Hp), Ad K T S H σ δ → ∀ Q : List V → Hp → Prop, (∀ vs H', Gr T H H' → REA K S H' vs es → Q vs H') → t σ H Q
def Eo (t : TO) (δ : Sl) (o : Option Int) : Prop := ∀ (S : Addr → Prop) (σ : St) (H : Hp), Ad K T S H σ δ → ∀ Q : Option Int → Hp → Prop, (∀ H', Gr T H H' → Q o H') → t σ H Q
inductive Res where
  | nx (δ : Sl)
  | rt (e : E)
  | bk (δ : Sl)
  | ct (δ : Sl)
def Fin (S : Addr → Prop) (H : Hp) (D : Ends) : Res → Prop
  | .nx δ => ∀ σ' H', Gr T H H' → Ad K T S H' σ' δ → D.nx σ' H'
  | .rt e => ∀ v H', Gr T H H' → Sok S H' → Tabs T H' → RE K S H' v e → D.rt v H'
  | .bk δ => ∀ σ' H', Gr T H H' → Ad K T S H' σ' δ → D.bk σ' H'
  | .ct δ => ∀ σ' H', Gr T H H' → Ad K T S H' σ' δ → D.ct σ' H'
def Es (t : TS) (δ : Sl) (r : Res) : Prop := ∀ (S : Addr → Prop) (σ : St) (H : Hp), Ad K T S H σ δ → ∀ D : Ends, Fin K T S H D r → t D σ H
end
/-! ### the best readings -/
section
variable (X : Cx)
def tB (e : Expr) : TE := fun σ H Q => ∀ pins s, Inv X pins σ H s → wpAny (model X.prog X.w) X.A (eval e X.env) (EP X pins σ Q) X.xe s
def tT (e : Expr) : L2.TT := fun σ H Q => ∀ pins s, Inv X pins σ H s → wpAny (model X.prog X.w) X.A (isTrue e X.env (eval e X.env)) (TP X pins σ Q) X.xe s
def tA (es : List Expr) : TA := fun σ H Q => ∀ (pos : Pos) pins s, Inv X pins σ H s → wpAny (model X.prog X.w) X.A (spliced (backTo pos (starEach es X.env))) (AP X pins σ Q) X.xe s
def tS (st : Stmt) : TS := fun D σ H => ∀ pins s, Inv X pins σ H s → wpAny (model X.prog X.w) X.A (exec st X.env) (SP X pins D) X.xe s
def tSs (st : List Stmt) : TS := fun D σ H => ∀ pins s, Inv X pins σ H s → wpAny (model X.prog X.w) X.A (execs st X.env) (SP X pins D) X.xe s
theorem pe_best {e : Expr} : PE X e (tB X e) := ⟨fun pins s _ _ _ I h => h pins s I⟩
theorem pt_best {e : Expr} : PT X e (tT X e) := ⟨fun pins s _ _ _ I h => h pins s I⟩
theorem pa_best {es : List Expr} : PA X es (tA X es) := ⟨fun pos pins s _ _ _ I h => h pos pins s I⟩
theorem ps_best {st : Stmt} : PS X st (tS X st) := ⟨fun pins s _ _ _ I h => h pins s I⟩
theorem pss_best {st : List Stmt} : PSs X st (tSs X st) := ⟨fun pins s _ _ _ I h => h pins s I⟩
end
section
variable (T : Tbl) (X : Cx)
/-- e gives r -/
def Ev (e : Expr) (δ : Sl) (r : E) : Prop := Ed X.K T (tB X e) δ r
def Evt (e : Expr) (δ : Sl) (b : Bool) : Prop := Et X.K T (tT X e) δ b
def Eva (es : List Expr) (δ : Sl) (rs : List E) : Prop := Ea X.K T (tA X es) δ rs
def Evs (st : Stmt) (δ : Sl) (r : Res) : Prop := Es X.K T (tS X st) δ r
def Evb (st : List Stmt) (δ : Sl) (r : Res) : Prop := Es X.K T (tSs X st) δ r
end
section
variable {T : Tbl} {X : Cx} {δ : Sl} {e : Expr} {es : List Expr} {st : Stmt} {sts : List Stmt} {r : E} {b : Bool}
theorem ev_of {t : TE} (h : PE X e t) (q : Ed X.K T t δ r) : Ev T X e δ r := fun S σ H a Q k pins s I => h.run pins s σ H Q I (q S σ H a Q k)
theorem evt_of {t : L2.TT} (h : PT X e t) (q : Et X.K T t δ b) : Evt T X e δ b := fun S σ H a Q k pins s I => h.run pins s σ H Q I (q S σ H a Q k)
theorem eva_of {t : TA} {rs : List E} (h : PA X es t) (q : Ea X.K T t δ rs) : Eva T X es δ rs := fun S σ H a Q k pos pins s I => h.run pos pins s σ H Q I (q S σ H a Q k)
theorem evs_of {t : TS} {z : Res} (h : PS X st t) (q : Es X.K T t δ z) : Evs T X st δ z := fun S σ H a D k pins s I => h.run pins s σ H D I (q S σ H a D k)
theorem evb_of {t : TS} {z : Res} (h : PSs X sts t) (q : Es X.K T t δ z) : Evb T X sts δ z := fun S σ H a D k pins s I => h.run pins s σ H D I (q S σ H a D k)
theorem ev_is {r' : E} (h : Ev T X e δ r') (q : r' = r) : Ev T X e δ r := q ▸ h
theorem evt_is {b' : Bool} (h : Evt T X e δ b') (q : b' = b) : Evt T X e δ b := q ▸ h
end

/-! ### expressions -/
section
variable {T : Tbl} {X : Cx} {δ : Sl} {a b c : Expr} {es : List Expr} {i j : Int} {r : E} {pos p : Pos} {x : Str}
theorem ev_n (i : Nat) (hN : X.N[i]? = some x := by rfl) (hv : Vis X.env.scope x := by first | exact Or.inl rfl | exact Or.inr (Or.inl rfl) | exact Or.inr (Or.inr rfl)) (h : δ[i]? = some (some r) := by rfl)
    (hd : (x == ("__debug__" : Str)) = false := by decide) (hcd : (x == ("__classdict__" : Str)) = false := by decide) : Ev T X (.Name x pos) δ r :=
  ev_of (pe_var (i := i) hN hv hd hcd) fun S σ H a Q k => by
    obtain ⟨v, e1, e2⟩ := a.sd.at' i r h
    exact ⟨v, e1, k v H (Gr.refl H) e2⟩
theorem ev_i {i : Int} {j : Nat} : Ev T X (.Constant (.int i) j pos) δ (.d (.int i)) := ev_of pe_int fun S σ H a Q k => k _ H (Gr.refl H) (Rp.int i)
theorem ev_b {i : Bool} {j : Nat} : Ev T X (.Constant (.bool i) j pos) δ (.d (.bool i)) := ev_of pe_bl fun S σ H a Q k => k _ H (Gr.refl H) (Rp.bl i)
theorem ev_0 {j : Nat} : Ev T X (.Constant .none j pos) δ (.d .none) := ev_of pe_non fun S σ H a Q k => k _ H (Gr.refl H) Rp.non
theorem ev_s {i : Str} {j : Nat} : Ev T X (.Constant (.str i) j pos) δ (.d (.str i)) := ev_of pe_str fun S σ H a Q k => k _ H (Gr.refl H) (Rp.str i)
/-- a module's constant that is an int or a text -/
theorem ev_gi {i : Int} (hm : ∃ t, X.mg x = some (.int i t)) (hg : Gl X x := by rfl) (hd : (x == ("__debug__" : Str)) = false := by decide) : Ev T X (.Name x pos) δ (.d (.int i)) := by
  obtain ⟨t, hm⟩ := hm
  exact ev_of (pe_glob (v := .int i) hg hm ⟨_, rfl⟩ hd) fun S σ H a Q k => k _ H (Gr.refl H) (Rp.int i)
theorem ev_gs {i : Str} (hm : ∃ t, X.mg x = some (.str i t)) (hg : Gl X x := by rfl) (hd : (x == ("__debug__" : Str)) = false := by decide) : Ev T X (.Name x pos) δ (.d (.str i)) := by
  obtain ⟨t, hm⟩ := hm
  exact ev_of (pe_glob (v := .str i) hg hm ⟨_, rfl⟩ hd) fun S σ H a Q k => k _ H (Gr.refl H) (Rp.str i)
/-- two in a row, by values -/
theorem ed_op {K : PySem.W.Frag} {ta tb : TE} {e1 e2 : E} {rr : R2} (h1 : Ed K T ta δ e1) (h2 : Ed K T tb δ e2)
    (q : ∀ (S : Addr → Prop) (H : Hp) (v w : V), Sok S H → Tabs T H → RE K S H v e1 → RE K S H w e2 → ∀ Q : VK, (∀ z H', Gr T H H' → RE K S H' z r → Q z H') → rr v w H Q) : Ed K T (tOp rr ta tb) δ r := fun S σ H a Q k =>
  h1 S σ H a _ fun v H1 g1 r1 => h2 S σ H1 (a.grow g1) _ fun w H2 g2 r2 =>
    q S H2 v w ((a.grow g1).grow g2).sok ((a.grow g1).grow g2).tab (r1.grow g2) r2 Q fun z H3 g3 r3 => k z H3 ((g1.trans g2).trans g3) r3
theorem ev_op {op : Operator} {e1 e2 : E} {rr : R2} (ho : OpR X (binaryOp op) rr) (h1 : Ev T X a δ e1) (h2 : Ev T X b δ e2)
    (q : ∀ (S : Addr → Prop) (H : Hp) (v w : V), Sok S H → Tabs T H → RE X.K S H v e1 → RE X.K S H w e2 → ∀ Q : VK, (∀ z H', Gr T H H' → RE X.K S H' z r → Q z H') → rr v w H Q) : Ev T X (.BinOp a op b pos) δ r :=
  ev_of (pe_op ho (pe_best X) (pe_best X)) (ed_op h1 h2 q)
theorem ev_cmp {op : CmpOp} {e1 e2 : E} {rr : R2} (ho : OpR X (compareOp op) rr) (h1 : Ev T X a δ e1) (h2 : Ev T X b δ e2)
    (q : ∀ (S : Addr → Prop) (H : Hp) (v w : V), Sok S H → Tabs T H → RE X.K S H v e1 → RE X.K S H w e2 → ∀ Q : VK, (∀ z H', Gr T H H' → RE X.K S H' z r → Q z H') → rr v w H Q) (hm : behindInMarks op b = false) : Ev T X (.Compare a [op] [b] pos) δ r :=
  ev_of (pe_cmpR ho (pe_best X) (pe_best X) hm) (ed_op h1 h2 q)
theorem ev_add (h1 : Ev T X a δ (.d (.int i))) (h2 : Ev T X b δ (.d (.int j))) : Ev T X (.BinOp a .Add b pos) δ (.d (.int (i + j))) :=
  ev_op op_add h1 h2 fun S H v w _ _ r1 r2 Q k => ⟨i, j, Rp.int_inv r1, Rp.int_inv r2, k _ H (Gr.refl H) (Rp.int _)⟩
theorem ev_sub (h1 : Ev T X a δ (.d (.int i))) (h2 : Ev T X b δ (.d (.int j))) : Ev T X (.BinOp a .Sub b pos) δ (.d (.int (i - j))) :=
  ev_op op_sub h1 h2 fun S H v w _ _ r1 r2 Q k => ⟨i, j, Rp.int_inv r1, Rp.int_inv r2, k _ H (Gr.refl H) (Rp.int _)⟩
theorem ev_lt (h1 : Ev T X a δ (.d (.int i))) (h2 : Ev T X b δ (.d (.int j))) : Ev T X (.Compare a [.Lt] [b] pos) δ (.d (.bool (decide (i < j)))) :=
  ev_cmp op_lt h1 h2 (fun S H v w _ _ r1 r2 Q k => ⟨i, j, Rp.int_inv r1, Rp.int_inv r2, k _ H (Gr.refl H) (Rp.bl _)⟩) (nomark _)
theorem ev_le (h1 : Ev T X a δ (.d (.int i))) (h2 : Ev T X b δ (.d (.int j))) : Ev T X (.Compare a [.LtE] [b] pos) δ (.d (.bool (decide (i ≤ j)))) :=
  ev_cmp op_le h1 h2 (fun S H v w _ _ r1 r2 Q k => ⟨i, j, Rp.int_inv r1, Rp.int_inv r2, k _ H (Gr.refl H) (Rp.bl _)⟩) (nomark _)
theorem ev_gt (h1 : Ev T X a δ (.d (.int i))) (h2 : Ev T X b δ (.d (.int j))) : Ev T X (.Compare a [.Gt] [b] pos) δ (.d (.bool (decide (j < i)))) :=
  ev_cmp op_gt h1 h2 (fun S H v w _ _ r1 r2 Q k => ⟨i, j, Rp.int_inv r1, Rp.int_inv r2, k _ H (Gr.refl H) (Rp.bl _)⟩) (nomark _)
theorem ev_ge (h1 : Ev T X a δ (.d (.int i))) (h2 : Ev T X b δ (.d (.int j))) : Ev T X (.Compare a [.GtE] [b] pos) δ (.d (.bool (decide (j ≤ i)))) :=
  ev_cmp op_ge h1 h2 (fun S H v w _ _ r1 r2 Q k => ⟨i, j, Rp.int_inv r1, Rp.int_inv r2, k _ H (Gr.refl H) (Rp.bl _)⟩) (nomark _)
theorem decV_int {i j : Int} : decide (V.int i = V.int j) = decide (i = j) := by
  by_cases h : i = j
  · subst h; simp
  · rw [decide_eq_false h, decide_eq_false (fun z => h (V.int.inj z))]
theorem decV_bl {i j : Bool} : decide (V.bl i = V.bl j) = decide (i = j) := by
  by_cases h : i = j
  · subst h; simp
  · rw [decide_eq_false h, decide_eq_false (fun z => h (V.bl.inj z))]
theorem ev_eq (h1 : Ev T X a δ (.d (.int i))) (h2 : Ev T X b δ (.d (.int j))) : Ev T X (.Compare a [.Eq] [b] pos) δ (.d (.bool (decide (i = j)))) :=
  ev_cmp op_eq h1 h2 (fun S H v w _ _ r1 r2 Q k => by
    cases Rp.int_inv r1; cases Rp.int_inv r2
    exact ⟨rfl, by rw [decV_int]; exact k _ H (Gr.refl H) (Rp.bl _)⟩) (nomark _)
theorem ev_ne (h1 : Ev T X a δ (.d (.int i))) (h2 : Ev T X b δ (.d (.int j))) : Ev T X (.Compare a [.NotEq] [b] pos) δ (.d (.bool (!decide (i = j)))) :=
  ev_cmp op_ne h1 h2 (fun S H v w _ _ r1 r2 Q k => by
    cases Rp.int_inv r1; cases Rp.int_inv r2
    exact ⟨rfl, by rw [decV_int]; exact k _ H (Gr.refl H) (Rp.bl _)⟩) (nomark _)
theorem ev_neB {i j : Bool} (h1 : Ev T X a δ (.d (.bool i))) (h2 : Ev T X b δ (.d (.bool j))) : Ev T X (.Compare a [.NotEq] [b] pos) δ (.d (.bool (!decide (i = j)))) :=
  ev_cmp op_ne h1 h2 (fun S H v w _ _ r1 r2 Q k => by
    cases Rp.bl_inv r1; cases Rp.bl_inv r2
    exact ⟨rfl, by rw [decV_bl]; exact k _ H (Gr.refl H) (Rp.bl _)⟩) (nomark _)
def isNo : E → Bool
  | .d .none => true
  | _ => false
theorem RE.isNo {K : PySem.W.Frag} {S : Addr → Prop} {H : Hp} {v : V} {e : E} (h : RE K S H v e) : decide (v = .non) = N.isNo e := by
  cases e with
  | ob => obtain ⟨rfl, _⟩ := h; rfl
  | rf a => have h : v = .ref a := h; subst h; rfl
  | d p => cases h <;> rfl
theorem ev_isN {j : Nat} {e : E} {pos' : Pos} (h1 : Ev T X a δ e) : Ev T X (.Compare a [.Is] [.Constant .none j pos'] pos) δ (.d (.bool (isNo e))) :=
  ev_of (pe_cmp (pc_isN (pe_best X))) fun S σ H ad Q k => h1 S σ H ad _ fun v H1 g r => by
    rw [r.isNo]
    exact k _ H1 g (Rp.bl _)
theorem ev_notN {j : Nat} {e : E} {pos' : Pos} (h1 : Ev T X a δ e) : Ev T X (.Compare a [.IsNot] [.Constant .none j pos'] pos) δ (.d (.bool (!isNo e))) :=
  ev_of (pe_cmp (pc_notN (pe_best X))) fun S σ H ad Q k => h1 S σ H ad _ fun v H1 g r => by
    rw [r.isNo]
    exact k _ H1 g (Rp.bl _)
/-- any data, ==, != -/
theorem ev_eqD {d1 d2 : PyData} (hu : X.A.units + 64 < cLine) (h1 : Ev T X a δ (.d d1)) (h2 : Ev T X b δ (.d d2)) (s1 : SeqAt.shaped d1 = true) (s2 : SeqAt.shaped d2 = true) : Ev T X (.Compare a [.Eq] [b] pos) δ (.d (.bool (PyData.eqv d1 d2))) :=
  ev_cmp (op_eqD hu) h1 h2 (fun S H v w _ _ r1 r2 Q k => ⟨d1, d2, Rp.dp r1, Rp.dp r2, s1, s2, k _ H (Gr.refl H) (Rp.bl _)⟩) (nomark _)
theorem ev_neD {d1 d2 : PyData} (hu : X.A.units + 64 < cLine) (h1 : Ev T X a δ (.d d1)) (h2 : Ev T X b δ (.d d2)) (s1 : SeqAt.shaped d1 = true) (s2 : SeqAt.shaped d2 = true) : Ev T X (.Compare a [.NotEq] [b] pos) δ (.d (.bool (!PyData.eqv d1 d2))) :=
  ev_cmp (op_neD hu) h1 h2 (fun S H v w _ _ r1 r2 Q k => ⟨d1, d2, Rp.dp r1, Rp.dp r2, s1, s2, k _ H (Gr.refl H) (Rp.bl _)⟩) (nomark _)
/-! ### and, or, not, tests -/
variable {u v w : Bool}
theorem ev_not (h : Ev T X a δ (.d (.bool u))) : Ev T X (.UnaryOp .Not a pos) δ (.d (.bool (!u))) :=
  ev_of (pe_not (pe_best X)) fun S σ H ad Q k => h S σ H ad _ fun x H1 g r => ⟨u, Rp.bl_inv r, k _ H1 g (Rp.bl _)⟩
theorem ev_and {rest : List Expr} (h : Ev T X a δ (.d (.bool u))) (h2 : u = true → Ev T X (.BoolOp .And (b :: rest) pos) δ (.d (.bool v))) : Ev T X (.BoolOp .And (a :: b :: rest) pos) δ (.d (.bool (u && v))) :=
  ev_of (pe_and (pe_best X) (pe_best X)) fun S σ H ad Q k => h S σ H ad _ fun x H1 g r => ⟨u, Rp.bl_inv r, by
    cases u with
    | true => exact h2 rfl S σ H1 (ad.grow g) Q fun z H2 g2 r2 => k z H2 (g.trans g2) r2
    | false => exact k _ H1 g (Rp.bl _)⟩
theorem ev_or {rest : List Expr} (h : Ev T X a δ (.d (.bool u))) (h2 : u = false → Ev T X (.BoolOp .Or (b :: rest) pos) δ (.d (.bool v))) : Ev T X (.BoolOp .Or (a :: b :: rest) pos) δ (.d (.bool (u || v))) :=
  ev_of (pe_or (pe_best X) (pe_best X)) fun S σ H ad Q k => h S σ H ad _ fun x H1 g r => ⟨u, Rp.bl_inv r, by
    cases u with
    | false => exact h2 rfl S σ H1 (ad.grow g) Q fun z H2 g2 r2 => k z H2 (g.trans g2) r2
    | true => exact k _ H1 g (Rp.bl _)⟩
theorem ev_one {op : BoolOp} {r : E} (h : Ev T X a δ r) : Ev T X (.BoolOp op [a] pos) δ r := ev_of (pe_one (pe_best X)) h
theorem ev_if {r : E} (h : Evt T X c δ u) (h1 : u = true → Ev T X a δ r) (h2 : u = false → Ev T X b δ r) : Ev T X (.IfExp c a b pos) δ r :=
  ev_of (pe_ifExp (pt_best X) (pe_best X) (pe_best X)) fun S σ H ad Q k => h S σ H ad _ fun H1 g => by
    cases u with
    | true => exact h1 rfl S σ H1 (ad.grow g) Q fun z H2 g2 r2 => k z H2 (g.trans g2) r2
    | false => exact h2 rfl S σ H1 (ad.grow g) Q fun z H2 g2 r2 => k z H2 (g.trans g2) r2
/-- an expression that gives a bool, as a test -/
theorem evt_v (h : Ev T X a δ (.d (.bool u))) (he : ∀ whole, isTrue a X.env whole = (do let v ← whole; standAt a.pos; holding [v] (truthy v)) := by intro _; rfl) : Evt T X a δ u :=
  evt_of (pt_val (pe_best X) he) fun S σ H ad Q k => h S σ H ad _ fun x H1 g r => ⟨u, Rp.bl_inv r, k H1 g⟩
theorem evt_not (h : Evt T X a δ u) : Evt T X (.UnaryOp .Not a pos) δ (!u) :=
  evt_of (pt_not (pt_best X)) fun S σ H ad Q k => h S σ H ad _ fun H1 g => k H1 g
end
end N

namespace N
open PySem L2 LamX
/-! ### arguments, displays -/
section
variable {T : Tbl} {X : Cx} {δ : Sl} {a b c e : Expr} {es : List Expr} {i j : Int} {r : E} {rs : List E} {d : PyData} {ds : List PyData} {pos p : Pos} {x : Str}
theorem eva_nil : Eva T X [] δ [] := eva_of pa_nil fun S σ H a Q k => k [] H (Gr.refl H) .nil
theorem eva_cons (h : Ev T X e δ r) (h2 : Eva T X es δ rs) (hs : starEach (e :: es) X.env = (false, eval e X.env) :: starEach es X.env := by rfl) : Eva T X (e :: es) δ (r :: rs) :=
  eva_of (pa_cons (pe_best X) (pa_best X) hs) fun S σ H a Q k => h S σ H a _ fun v H1 g r1 => h2 S σ H1 (a.grow g) _ fun vs H2 g2 r2 => k _ H2 (g.trans g2) (.cons (r1.grow g2) r2)
/-- arguments that are data -/
def Evd (T : Tbl) (X : Cx) (es : List Expr) (δ : Sl) (ds : List PyData) : Prop := Eva T X es δ (ds.map .d)
theorem evd_nil : Evd T X [] δ [] := eva_nil
theorem evd_cons (h : Ev T X e δ (.d d)) (h2 : Evd T X es δ ds) (hs : starEach (e :: es) X.env = (false, eval e X.env) :: starEach es X.env := by rfl) : Evd T X (e :: es) δ (d :: ds) := eva_cons h h2 hs
theorem small_of {n : Nat} (h : n ≤ 1000000) : n ≤ sizeLine := Nat.le_trans h (by decide)
theorem small_lt {n : Nat} (h : n ≤ 1000000) : n < sizeLine := Nat.lt_of_le_of_lt h (by decide)
theorem ev_tup {k : Nat} (h : Evd T X es δ ds) (hl : Nat.ble ds.length 1000000 = true := by rfl) : Ev T X (.Tuple es k pos) δ (.d (.tuple ds)) :=
  ev_of (pe_tup (pa_best X)) fun S σ H a Q q => h S σ H a _ fun vs H1 g r1 => ⟨small_of (by have := r1.length; rw [List.length_map] at this; rw [this]; exact Nat.le_of_ble_eq_true hl),
    fun p hp => q _ _ (g.trans (Gr.new hp)) (Rp.tup (SqT.of upd_same) (r1.rpa.grow (T := T) (Gr.new hp)))⟩
theorem ev_lst (h : Evd T X es δ ds) (hl : Nat.ble ds.length 1000000 = true := by rfl) : Ev T X (.List es pos) δ (.d (.list ds)) :=
  ev_of (pe_lst (pa_best X)) fun S σ H a Q q => h S σ H a _ fun vs H1 g r1 => ⟨small_of (by have := r1.length; rw [List.length_map] at this; rw [this]; exact Nat.le_of_ble_eq_true hl),
    fun p hp => q _ _ (g.trans (Gr.new hp)) (Rp.lst (SL.new (a.grow g).sok hp) (r1.rpa.grow (T := T) (Gr.new hp)))⟩
/-! ### subscripts -/
theorem ix_get {K : PySem.W.Frag} {S : Addr → Prop} {H : Hp} {vs : List V} {ds : List PyData} (r : RpA K S H vs ds) {i : Int} {d : PyData} (h : atI ds i = some d) : ∃ v, atI vs i = some v ∧ Rp K S H v d := by
  unfold atI at h ⊢
  rw [r.length]
  cases q : ixN ds.length i with
  | none => rw [q] at h; cases h
  | some j =>
    rw [q] at h
    exact r.get h
theorem ev_ixT (h1 : Ev T X a δ (.d (.tuple ds))) (h2 : Ev T X b δ (.d (.int i))) (hd : atI ds i = some d) (hs : PlainIx b := by intro _ _; rfl) : Ev T X (.Subscript a b pos) δ (.d d) :=
  ev_of (pe_ix ix_tup (pe_best X) (pe_best X) hs) (ed_op h1 h2 fun S H v w _ _ r1 r2 Q k => by
    cases r1 with
    | tup hq ha =>
      obtain ⟨u, e1, e2⟩ := ix_get ha hd
      exact ⟨_, _, i, u, rfl, Rp.int_inv r2, hq, e1, k u H (Gr.refl H) e2⟩)
theorem ev_ixL (h1 : Ev T X a δ (.d (.list ds))) (h2 : Ev T X b δ (.d (.int i))) (hd : atI ds i = some d) (hs : PlainIx b := by intro _ _; rfl) : Ev T X (.Subscript a b pos) δ (.d d) :=
  ev_of (pe_ix ix_list (pe_best X) (pe_best X) hs) (ed_op h1 h2 fun S H v w _ _ r1 r2 Q k => by
    cases r1 with
    | lst hq ha =>
      obtain ⟨u, e1, e2⟩ := ix_get ha hd
      exact ⟨_, _, i, u, rfl, Rp.int_inv r2, hq.sq, e1, k u H (Gr.refl H) e2⟩)
/-! ### slices -/
def cutD {α : Type} (xs : List α) (lo hi : Option Int) : List α := (xs.drop (HT.sIx xs.length 0 lo)).take (HT.sIx xs.length xs.length hi - HT.sIx xs.length 0 lo)
theorem cut_rp {K : PySem.W.Frag} {S : Addr → Prop} {H : Hp} {vs : List V} {ds : List PyData} (r : RpA K S H vs ds) (lo hi : Option Int) : RpA K S H (cutV vs lo hi) (cutD ds lo hi) := by
  unfold cutV cutD
  rw [r.length]
  exact (r.drop _).take _
def Evo (T : Tbl) (X : Cx) (e : Option Expr) (δ : Sl) (o : Option Int) : Prop := ∃ t, PO X e t ∧ Eo X.K T t δ o
theorem evo_none : Evo T X none δ none := ⟨_, po_none, fun S σ H a Q k => k H (Gr.refl H)⟩
theorem evo_some (h : Ev T X e δ (.d (.int i))) : Evo T X (some e) δ (some i) := ⟨_, po_some (pe_best X), fun S σ H a Q k => h S σ H a _ fun v H1 g r => ⟨i, Rp.int_inv r, k H1 g⟩⟩
theorem ev_slL {lo hi : Option Expr} {l u : Option Int} {p2 : Pos} (h : Ev T X e δ (.d (.list ds))) (h1 : Evo T X lo δ l) (h2 : Evo T X hi δ u) : Ev T X (.Subscript e (.Slice lo hi none p2) pos) δ (.d (.list (cutD ds l u))) := by
  obtain ⟨t1, q1, e1⟩ := h1
  obtain ⟨t2, q2, e2⟩ := h2
  refine ev_of (pe_slice sl_list (pe_best X) q1 q2) fun S σ H a Q k => h S σ H a _ fun v H1 g r => e1 S σ H1 (a.grow g) _ fun H2 g2 => e2 S σ H2 ((a.grow g).grow g2) _ fun H3 g3 => ?_
  cases r with
  | lst hq ha =>
    refine ⟨_, _, rfl, ((hq.grow g2).grow g3).sq, fun p hp => k _ _ (((g.trans g2).trans g3).trans (Gr.new hp)) (Rp.lst (SL.new (((a.grow g).grow g2).grow g3).sok hp) ?_)⟩
    exact (cut_rp ((ha.grow g2).grow g3) l u).grow (T := T) (Gr.new hp)
theorem cutD_whole {α : Type} (xs : List α) {lo hi : Option Int} (h : HT.sIx xs.length 0 lo = 0 ∧ HT.sIx xs.length xs.length hi = xs.length) : cutD xs lo hi = xs := by
  unfold cutD
  rw [h.1, h.2]
  simp
theorem ev_slT {lo hi : Option Expr} {l u : Option Int} {p2 : Pos} (h : Ev T X e δ (.d (.tuple ds))) (h1 : Evo T X lo δ l) (h2 : Evo T X hi δ u) : Ev T X (.Subscript e (.Slice lo hi none p2) pos) δ (.d (.tuple (cutD ds l u))) := by
  obtain ⟨t1, q1, e1⟩ := h1
  obtain ⟨t2, q2, e2⟩ := h2
  refine ev_of (pe_slice sl_tupA (pe_best X) q1 q2) fun S σ H a Q k => h S σ H a _ fun v H1 g r => e1 S σ H1 (a.grow g) _ fun H2 g2 => e2 S σ H2 ((a.grow g).grow g2) _ fun H3 g3 => ?_
  cases r with
  | tup hq ha =>
    refine ⟨_, _, rfl, (SqT.grow g3 (SqT.grow g2 hq)), fun hw => ?_, fun hw p hp => ?_⟩
    · refine k _ H3 ((g.trans g2).trans g3) ?_
      rw [ha.length] at hw
      show Rp X.K S H3 _ _
      rw [cutD_whole _ hw]
      exact Rp.tup (SqT.grow g3 (SqT.grow g2 hq)) ((ha.grow g2).grow g3)
    · exact k _ _ (((g.trans g2).trans g3).trans (Gr.new hp)) (Rp.tup (SqT.of upd_same) ((cut_rp ((ha.grow g2).grow g3) l u).grow (T := T) (Gr.new hp)))
/-! ### concatenation -/
def rCatL (K : PySem.W.Frag) : R2 := fun x y H Q => ∃ l b xs zs, x = .ref l ∧ y = .ref b ∧ SqL K H l xs ∧ SqL K H b zs ∧ xs.length + zs.length ≤ sizeLine ∧ ∀ p, H p = none → Q (.ref p) (upd H p (.lst (xs ++ zs)))
theorem op_catL : OpR X (binaryOp .Add) (rCatL X.K) := by
  intro pins s σ H x y v u Q I rx ry h
  obtain ⟨l, b, xs, zs, rfl, rfl, hH, hB, hz, q⟩ := h
  cases rx
  cases ry
  obtain ⟨its, r, ⟨⟨c1, d1, dt1, sl1⟩, n, e, hc, hd, hdt⟩, z⟩ := I.list hH
  obtain ⟨its2, r2, ⟨⟨c2, d2, dt2, sl2⟩, n2, e2, hc2, hd2, hdt2⟩, z2⟩ := I.list hB
  simp only at hc hd hdt hc2 hd2 hdt2
  subst hc hd hdt hc2 hd2 hdt2
  have hl := r.length
  have hl2 := r2.length
  have hsz : its.toArray.size + its2.toArray.size ≤ sizeLine := by rw [List.size_toArray, List.size_toArray]; omega
  refine PySem.concat_meets ⟨_, e, rfl⟩ ⟨_, e2, rfl⟩ PySem.noFill_list_add PySem.seq_list_add PySem.F.slot_list_add PySem.F.entry_list_add (PySem.F.args_list_add_2 _ _) (PyProof.Rows.list_addW l b its.toArray its2.toArray n n2 none none sl1 sl2 hsz) ⟨e, e2, ?_⟩
  have ea : its.toArray ++ its2.toArray = (its ++ its2).toArray := by simp
  rw [ea]
  exact ⟨.ref _, _, I.lnew (t' := s.toks) (r.append r2) (by rw [List.length_append]; omega), rfl, q _ I.fresh⟩
theorem ev_catL {ds2 : List PyData} (h1 : Ev T X a δ (.d (.list ds))) (h2 : Ev T X b δ (.d (.list ds2))) (hl : ds.length + ds2.length ≤ 1000000) : Ev T X (.BinOp a .Add b pos) δ (.d (.list (ds ++ ds2))) :=
  ev_op op_catL h1 h2 fun S H v w sk _ r1 r2 Q k => by
    cases r1 with
    | lst hq ha => cases r2 with
      | lst hq2 ha2 =>
        exact ⟨_, _, _, _, rfl, rfl, hq.sq, hq2.sq, small_of (by rw [ha.length, ha2.length]; exact hl), fun p hp => k _ _ (Gr.new hp) (Rp.lst (SL.new sk hp) ((ha.append ha2).grow (T := T) (Gr.new hp)))⟩
theorem ev_catT {ds2 : List PyData} (h1 : Ev T X a δ (.d (.tuple ds))) (h2 : Ev T X b δ (.d (.tuple ds2))) (hl : ds.length + ds2.length ≤ 1000000) : Ev T X (.BinOp a .Add b pos) δ (.d (.tuple (ds ++ ds2))) :=
  ev_op op_catA h1 h2 fun S H v w sk _ r1 r2 Q k => by
    cases r1 with
    | tup hq ha => cases r2 with
      | tup hq2 ha2 =>
        refine ⟨_, _, _, _, rfl, rfl, hq, hq2, small_of (by rw [ha.length, ha2.length]; exact hl), fun e => ?_, fun _ e => ?_, fun _ _ p hp => k _ _ (Gr.new hp) (Rp.tup (SqT.of upd_same) ((ha.append ha2).grow (T := T) (Gr.new hp)))⟩
        · subst e
          cases ha
          exact k _ H (Gr.refl H) (Rp.tup hq2 ha2)
        · subst e
          cases ha2
          exact k _ H (Gr.refl H) (by rw [List.append_nil]; exact Rp.tup hq ha)
/-! ### built-ins -/
structure Bn (mg : Str → Option Value) : Prop where
  len : mg "len" = none
  range : mg "range" = none
  tuple : mg "tuple" = none
  list : mg "list" = none
  sorted : mg "sorted" = none
  zip : mg "zip" = none
  enumerate : mg "enumerate" = none
  min : mg "min" = none
  max : mg "max" = none
  all : mg "all" = none
  any : mg "any" = none
  isinstance : mg "isinstance" = none
  int : mg "int" = none
  bool : mg "bool" = none
  str : mg "str" = none
theorem ev_lenT (B : Bn X.mg) (h : Ev T X a δ (.d (.tuple ds))) (hg : Gl X "len" := by rfl) (hs : starEach [a] X.env = (false, eval a X.env) :: starEach [] X.env := by rfl) : Ev T X (.Call (.Name "len" p) [a] [] pos) δ (.d (.int (ds.length : Int))) :=
  ev_of (pe_callB call_len_seq hg B.len PySem.boot_len (pa_cons (pe_best X) pa_nil hs) (he := hs)) fun S σ H ad Q k => h S σ H ad _ fun v H1 g r => by
    cases r with
    | tup hq ha => exact ⟨_, _, rfl, .inr hq, by rw [ha.length]; exact k _ H1 g (Rp.int _)⟩
theorem ev_lenL (B : Bn X.mg) (h : Ev T X a δ (.d (.list ds))) (hg : Gl X "len" := by rfl) (hs : starEach [a] X.env = (false, eval a X.env) :: starEach [] X.env := by rfl) : Ev T X (.Call (.Name "len" p) [a] [] pos) δ (.d (.int (ds.length : Int))) :=
  ev_of (pe_callB call_len_seq hg B.len PySem.boot_len (pa_cons (pe_best X) pa_nil hs) (he := hs)) fun S σ H ad Q k => h S σ H ad _ fun v H1 g r => by
    cases r with
    | lst hq ha => exact ⟨_, _, rfl, .inl hq.sq, by rw [ha.length]; exact k _ H1 g (Rp.int _)⟩
theorem ev_tupL (B : Bn X.mg) (h : Ev T X a δ (.d (.list ds))) (hg : Gl X "tuple" := by rfl) (hs : starEach [a] X.env = (false, eval a X.env) :: starEach [] X.env := by rfl) : Ev T X (.Call (.Name "tuple" p) [a] [] pos) δ (.d (.tuple ds)) :=
  ev_of (pe_tupleOf hg B.tuple (pe_best X) hs) fun S σ H ad Q k => h S σ H ad _ fun v H1 g r => by
    cases r with
    | lst hq ha => exact .inl ⟨_, _, rfl, hq.sq, fun q hp => k _ _ (g.trans (Gr.new hp)) (Rp.tup (SqT.of upd_same) (ha.grow (T := T) (Gr.new hp)))⟩
theorem ev_listL (B : Bn X.mg) (h : Ev T X a δ (.d (.list ds))) (hg : Gl X "list" := by rfl) (hs : starEach [a] X.env = (false, eval a X.env) :: starEach [] X.env := by rfl) : Ev T X (.Call (.Name "list" p) [a] [] pos) δ (.d (.list ds)) :=
  ev_of (pe_callTy call_list_of hg B.list (by decide +kernel) (pa_cons (pe_best X) pa_nil hs) (he := hs)) fun S σ H ad Q k => h S σ H ad _ fun v H1 g r => by
    cases r with
    | lst hq ha => exact ⟨_, _, rfl, .inl hq.sq, fun q hp => k _ _ (g.trans (Gr.new hp)) (Rp.lst (SL.new (ad.grow g).sok hp) (ha.grow (T := T) (Gr.new hp)))⟩
theorem ev_all {bs : List Bool} (B : Bn X.mg) (h : Ev T X a δ (.d (.list (bs.map .bool)))) (hc : X.calm = true := by rfl) (hg : Gl X "all" := by rfl) (hs : starEach [a] X.env = (false, eval a X.env) :: starEach [] X.env := by rfl) : Ev T X (.Call (.Name "all" p) [a] [] pos) δ (.d (.bool (bs.all id))) :=
  ev_of (pe_callB (cr_all hc) hg B.all (by decide +kernel) (pa_cons (pe_best X) pa_nil hs) (he := hs)) fun S σ H ad Q k => h S σ H ad _ fun v H1 g r => by
    cases r with
    | lst hq ha => exact ⟨_, bs, rfl, by rw [← ha.bools]; exact hq.sq, k _ H1 g (Rp.bl _)⟩
theorem ev_any {bs : List Bool} (B : Bn X.mg) (h : Ev T X a δ (.d (.list (bs.map .bool)))) (hc : X.calm = true := by rfl) (hg : Gl X "any" := by rfl) (hs : starEach [a] X.env = (false, eval a X.env) :: starEach [] X.env := by rfl) : Ev T X (.Call (.Name "any" p) [a] [] pos) δ (.d (.bool (bs.any id))) :=
  ev_of (pe_callB (cr_any hc) hg B.any (by decide +kernel) (pa_cons (pe_best X) pa_nil hs) (he := hs)) fun S σ H ad Q k => h S σ H ad _ fun v H1 g r => by
    cases r with
    | lst hq ha => exact ⟨_, bs, rfl, by rw [← ha.bools]; exact hq.sq, k _ H1 g (Rp.bl _)⟩
/-- the least of a list of ints -/
theorem ev_minL {ns : List Int} {m : Int} (B : Bn X.mg) (h : Ev T X a δ (.d (.list (ns.map .int)))) (hm : m ∈ ns) (hl : ∀ y ∈ ns, m ≤ y) (hc : X.calm = true := by rfl) (hg : Gl X "min" := by rfl) (hs : starEach [a] X.env = (false, eval a X.env) :: starEach [] X.env := by rfl) :
    Ev T X (.Call (.Name "min" p) [a] [] pos) δ (.d (.int m)) :=
  ev_of (pe_callB (cr_min hc) hg B.min (by decide +kernel) (pa_cons (pe_best X) pa_nil hs) (he := hs)) fun S σ H ad Q k => h S σ H ad _ fun v H1 g r => by
    cases r with
    | lst hq ha =>
      refine ⟨_, ns, rfl, by rw [← ha.ints]; exact hq.sq, List.length_pos_of_mem hm, fun m' h1 h2 => ?_⟩
      have e : m' = m := Int.le_antisymm (h2 m hm) (hl m' h1)
      rw [e]
      exact k _ H1 g (Rp.int _)
theorem ev_max2 (B : Bn X.mg) (h1 : Ev T X a δ (.d (.int i))) (h2 : Ev T X b δ (.d (.int j))) (hc : X.calm = true := by rfl) (hg : Gl X "max" := by rfl) (hs : starEach [a, b] X.env = (false, eval a X.env) :: starEach [b] X.env := by rfl)
    (hs2 : starEach [b] X.env = (false, eval b X.env) :: starEach [] X.env := by rfl) : Ev T X (.Call (.Name "max" p) [a, b] [] pos) δ (.d (.int (if j > i then j else i))) :=
  ev_of (pe_callB (call_max2 hc) hg B.max (by decide +kernel) (pa_cons (pe_best X) (pa_cons (pe_best X) pa_nil hs2) hs) (he := hs) (hpl := by rw [hs2]; rfl)) fun S σ H ad Q k => h1 S σ H ad _ fun v H1 g r => h2 S σ H1 (ad.grow g) _ fun w H2 g2 r2 =>
    ⟨i, j, by rw [Rp.int_inv r, Rp.int_inv r2], k _ H2 (g.trans g2) (Rp.int _)⟩
theorem ev_min2 (B : Bn X.mg) (h1 : Ev T X a δ (.d (.int i))) (h2 : Ev T X b δ (.d (.int j))) (hc : X.calm = true := by rfl) (hg : Gl X "min" := by rfl) (hs : starEach [a, b] X.env = (false, eval a X.env) :: starEach [b] X.env := by rfl)
    (hs2 : starEach [b] X.env = (false, eval b X.env) :: starEach [] X.env := by rfl) : Ev T X (.Call (.Name "min" p) [a, b] [] pos) δ (.d (.int (if j < i then j else i))) :=
  ev_of (pe_callB (call_min2 hc) hg B.min (by decide +kernel) (pa_cons (pe_best X) (pa_cons (pe_best X) pa_nil hs2) hs) (he := hs) (hpl := by rw [hs2]; rfl)) fun S σ H ad Q k => h1 S σ H ad _ fun v H1 g r => h2 S σ H1 (ad.grow g) _ fun w H2 g2 r2 =>
    ⟨i, j, by rw [Rp.int_inv r, Rp.int_inv r2], k _ H2 (g.trans g2) (Rp.int _)⟩
theorem ev_intB {u : Bool} (B : Bn X.mg) (h1 : Ev T X a δ (.d (.bool u))) (hg : Gl X "int" := by rfl) (hs : starEach [a] X.env = (false, eval a X.env) :: starEach [] X.env := by rfl) : Ev T X (.Call (.Name "int" p) [a] [] pos) δ (.d (.int (if u then 1 else 0))) :=
  ev_of (pe_callTy call_int1 hg B.int (by decide +kernel) (pa_cons (pe_best X) pa_nil hs) (he := hs)) fun S σ H ad Q k => h1 S σ H ad _ fun v H1 g r => .inr ⟨u, by rw [Rp.bl_inv r], k _ H1 g (Rp.int _)⟩
theorem ev_listR {n : Int} {q pos2 : Pos} (B : Bn X.mg) (h : Ev T X a δ (.d (.int n))) (hn : 0 ≤ n ∧ n ≤ 100000) (hc : X.calm = true := by rfl) (hg : Gl X "list" := by rfl) (hg2 : Gl X "range" := by rfl)
    (na : starEach [a] X.env = (false, eval a X.env) :: starEach [] X.env := by rfl) (na2 : starEach [.Call (.Name "range" p) [a] [] pos] X.env = (false, eval (.Call (.Name "range" p) [a] [] pos) X.env) :: starEach [] X.env := by rfl) :
    Ev T X (.Call (.Name "list" q) [.Call (.Name "range" p) [a] [] pos] [] pos2) δ (.d (.list ((List.range n.toNat).map fun (i : Nat) => PyData.int (i : Int)))) :=
  ev_of (pe_listRg hc hg B.list (prg_1 hg2 B.range (pe_best X) na) na2) fun S σ H ad Q k => h S σ H ad _ fun v H1 g r => ⟨n, Rp.int_inv r, RgOk.of_le (Int.le_refl 0) (by omega) (by decide) (by omega), fun q hp => k _ _ (g.trans (Gr.new hp)) (Rp.lst (SL.new (ad.grow g).sok hp) (by
    have e : rgV 0 n = ((List.range n.toNat).map fun (i : Nat) => (i : Int)).map V.int := by
      unfold rgV
      rw [List.map_map, Int.sub_zero]
      exact List.map_congr_left fun i _ => by simp
    have e2 : ((List.range n.toNat).map fun (i : Nat) => PyData.int (i : Int)) = ((List.range n.toNat).map fun (i : Nat) => (i : Int)).map PyData.int := by rw [List.map_map]; rfl
    rw [e, e2]
    exact RpA.of_ints _))⟩
/-- x in (a list or tuple of ints), not in -/
theorem inV_int {n : Int} {ns : List Int} : inV (V.int n) (ns.map V.int) = decide (n ∈ ns) := by
  unfold inV
  induction ns with
  | nil => rfl
  | cons m ns ih =>
    rw [List.map_cons, List.any_cons, ih]
    have e : eqV (V.int m) (V.int n) = decide (m = n) := by
      show (m == n) = _
      exact Bool.beq_eq_decide_eq _ _
    rw [e, ← Bool.decide_or]
    exact decide_eq_decide.mpr ⟨fun h => h.elim (fun z => by rw [z]; exact List.mem_cons_self) (fun z => List.mem_cons_of_mem _ z), fun h => (List.mem_cons.mp h).elim (fun z => .inl z.symm) .inr⟩
theorem flat_ints {ns : List Int} : (ns.map V.int).all flatV = true := by
  rw [List.all_eq_true]
  intro x hx
  obtain ⟨n, _, rfl⟩ := List.mem_map.mp hx
  rfl
theorem ev_inT {n : Int} {ns : List Int} (h1 : Ev T X a δ (.d (.int n))) (h2 : Ev T X b δ (.d (.tuple (ns.map .int)))) (hm : behindInMarks .In b = false := by rfl) : Ev T X (.Compare a [.In] [b] pos) δ (.d (.bool (decide (n ∈ ns)))) :=
  ev_cmp op_in_seq h1 h2 (fun S H v w _ _ r1 r2 Q k => by
    cases Rp.int_inv r1
    cases r2 with
    | tup hq ha =>
      have e := ha.ints
      subst e
      refine ⟨_, _, rfl, .inr hq, rfl, flat_ints, ?_⟩
      rw [inV_int]
      exact k _ H (Gr.refl H) (Rp.bl _)) hm
theorem ev_ninT {n : Int} {ns : List Int} (h1 : Ev T X a δ (.d (.int n))) (h2 : Ev T X b δ (.d (.tuple (ns.map .int)))) (hm : behindInMarks .NotIn b = false := by rfl) : Ev T X (.Compare a [.NotIn] [b] pos) δ (.d (.bool (!decide (n ∈ ns)))) :=
  ev_cmp op_notIn_seq h1 h2 (fun S H v w _ _ r1 r2 Q k => by
    cases Rp.int_inv r1
    cases r2 with
    | tup hq ha =>
      have e := ha.ints
      subst e
      refine ⟨_, _, rfl, .inr hq, rfl, flat_ints, ?_⟩
      rw [inV_int]
      exact k _ H (Gr.refl H) (Rp.bl _)) hm
end
end N

namespace N
open PySem L2 LamX
/-! ### what is walked -/
/-- from H0 on J yields the data ds -/
def WkD (K : PySem.W.Frag) (T : Tbl) (S : Addr → Prop) (J : It) (ds : List PyData) (H0 : Hp) : Prop :=
  ∀ H, Gr T H0 H → (∀ i, i < ds.length → J.go i H) ∧ J.stop ds.length H ∧
    ∀ i x H', i < ds.length → J.yld i H x H' → Gr T H H' ∧ ∀ S' : Addr → Prop, (∀ b, S' b → S b ∨ H0 b = none) → ∃ d, ds[i]? = some d ∧ Rp K S' H' x d
def Iw (K : PySem.W.Frag) (T : Tbl) (wi : TI) (δ : Sl) (ds : List PyData) : Prop :=
  ∀ (S : Addr → Prop) (σ : St) (H : Hp), Ad K T S H σ δ → ∀ R : It → Hp → Prop, (∀ J H', Gr T H H' → WkD K T S J ds H' → R J H') → wi σ H R
/-- tg in it: the walk gives ds -/
def Evi (T : Tbl) (X : Cx) (tg it : Expr) (δ : Sl) (ds : List PyData) : Prop := ∃ wi, PI X tg it wi ∧ Iw X.K T wi δ ds
section
variable {T : Tbl} {X : Cx} {δ : Sl} {a b c e tg : Expr} {es : List Expr} {i j : Int} {r : E} {d : PyData} {ds ds2 : List PyData} {pos p : Pos} {x : Str}
theorem evi_list (h : Ev T X a δ (.d (.list ds))) : Evi T X tg a δ ds := by
  refine ⟨_, pi_list (pe_best X), fun S σ H ad R k => h S σ H ad _ fun v H1 g r => ?_⟩
  cases r with
  | lst hq ha =>
    rename_i l xs
    refine ⟨l, rfl, ⟨xs, hq.sq⟩, k _ H1 g fun H2 g2 => ?_⟩
    have hl := ha.length
    have w := walk_list (K := X.K) (a := l) (xs := xs)
    have q2 : SqL X.K H2 l xs := (hq.grow g2).sq
    refine ⟨fun i hi => w.goes i H2 (by omega) q2, by rw [← hl]; exact w.stops H2 q2, fun i x H3 hi y => ?_⟩
    obtain ⟨e1, e2⟩ := w.yields i H2 x H3 (by omega) q2 y
    subst e1
    refine ⟨Gr.refl _, fun S' hS => ?_⟩
    exact ((ha.more hS).grow g2).getV e2
theorem evi_tup (h : Ev T X a δ (.d (.tuple ds))) : Evi T X tg a δ ds := by
  refine ⟨_, pi_tup (pe_best X), fun S σ H ad R k => h S σ H ad _ fun v H1 g r => ?_⟩
  cases r with
  | tup hq ha =>
    rename_i l xs
    refine ⟨l, rfl, ⟨xs, hq⟩, k _ H1 g fun H2 g2 => ?_⟩
    have hl := ha.length
    have w := walk_tup (K := X.K) (a := l) (xs := xs)
    have q2 : SqT X.K H2 l xs := SqT.grow g2 hq
    refine ⟨fun i hi => w.goes i H2 (by omega) q2, by rw [← hl]; exact w.stops H2 q2, fun i x H3 hi y => ?_⟩
    obtain ⟨e1, e2⟩ := w.yields i H2 x H3 (by omega) q2 y
    subst e1
    refine ⟨Gr.refl _, fun S' hS => ?_⟩
    exact ((ha.more hS).grow g2).getV e2
def rng (n : Nat) : List PyData := (List.range n).map fun (i : Nat) => PyData.int (i : Int)
def rngF (lo : Int) (n : Nat) : List PyData := (List.range n).map fun (i : Nat) => PyData.int (lo + (i : Int))
theorem rng_eq (n : Nat) : rngF 0 n = rng n := by
  unfold rngF rng
  exact List.map_congr_left fun i _ => by rw [Int.zero_add]
theorem wk_rng {K : PySem.W.Frag} {S : Addr → Prop} {lo : Int} {n : Nat} {H0 : Hp} : WkD K T S (Itr lo n) (rngF lo n) H0 := fun H g => by
  have w := walk_range (lo := lo) (n := n)
  have hl : (rngF lo n).length = n := by unfold rngF; simp
  refine ⟨fun i hi => w.goes i H (by omega) trivial, by rw [hl]; exact w.stops H trivial, fun i x H3 hi y => ?_⟩
  obtain ⟨e1, e2⟩ := w.yields i H x H3 (by omega) trivial y
  subst e1 e2
  refine ⟨Gr.refl _, fun S' _ => ⟨.int (lo + (i : Nat)), ?_, Rp.int _⟩⟩
  unfold rngF
  rw [List.getElem?_map, List.getElem?_range (by omega)]
  rfl
theorem evi_r1 (B : Bn X.mg) (h : Ev T X a δ (.d (.int i))) (hi : -100000 ≤ i ∧ i ≤ 100000) (hg : Gl X "range" := by rfl) (hs : starEach [a] X.env = (false, eval a X.env) :: starEach [] X.env := by rfl) : Evi T X tg (.Call (.Name "range" p) [a] [] pos) δ (rng i.toNat) := by
  refine ⟨_, pi_range1 hg B.range (pa_cons (pe_best X) pa_nil hs) (by rw [hs]; rfl), fun S σ H ad R k => h S σ H ad _ fun v H1 g r => ⟨i, by rw [Rp.int_inv r], by omega, by omega, k _ H1 g ?_⟩⟩
  rw [← rng_eq]
  exact wk_rng
theorem evi_r2 (B : Bn X.mg) (h1 : Ev T X a δ (.d (.int i))) (h2 : Ev T X b δ (.d (.int j))) (hi : -100000 ≤ i ∧ i ≤ 100000 ∧ -100000 ≤ j ∧ j ≤ 100000) (hg : Gl X "range" := by rfl)
    (hs : starEach [a, b] X.env = (false, eval a X.env) :: starEach [b] X.env := by rfl) (hs2 : starEach [b] X.env = (false, eval b X.env) :: starEach [] X.env := by rfl) : Evi T X tg (.Call (.Name "range" p) [a, b] [] pos) δ (rngF i (j - i).toNat) := by
  refine ⟨_, pi_range2 hg B.range (pa_cons (pe_best X) (pa_cons (pe_best X) pa_nil hs2) hs) (by rw [hs, hs2]; rfl) (by rw [hs2]; rfl), fun S σ H ad R k => h1 S σ H ad _ fun v H1 g r => h2 S σ H1 (ad.grow g) _ fun w H2 g2 r2 => ⟨i, j, by rw [Rp.int_inv r, Rp.int_inv r2], by omega, k _ H2 (g.trans g2) wk_rng⟩⟩
/-- new pairs of xs's and ys's items -/
theorem wk_pair {K : PySem.W.Frag} {S : Addr → Prop} {J : It} {G : Hp → Prop} {f g : Nat → Option V} {H0 : Hp} {n : Nat} {dps : List PyData} (w : Walk J n G (YPair f g)) (hG : ∀ H, Gr T H0 H → G H) (hn : dps.length = n)
    (hd : ∀ (S' : Addr → Prop), (∀ b, S' b → S b ∨ H0 b = none) → ∀ i u v, i < n → f i = some u → g i = some v → ∃ d1 d2, dps[i]? = some (.tuple [d1, d2]) ∧ Rp K S' H0 u d1 ∧ Rp K S' H0 v d2) : WkD K T S J dps H0 := fun H gr => by
  refine ⟨fun i hi => w.goes i H (by omega) (hG H gr), by rw [hn]; exact w.stops H (hG H gr), fun i x H3 hi y => ?_⟩
  obtain ⟨P, u, v, e1, e2, e3, e4, e5⟩ := w.yields i H x H3 (by omega) (hG H gr) y
  subst e1 e3
  refine ⟨Gr.new e2, fun S' hS => ?_⟩
  obtain ⟨d1, d2, q1, q2, q3⟩ := hd S' hS i u v (by omega) e4 e5
  exact ⟨_, q1, Rp.tup (SqT.of upd_same) (.cons ((q2.grow gr).grow (T := T) (Gr.new e2)) (.cons ((q3.grow gr).grow (T := T) (Gr.new e2)) .nil))⟩
def pairsD : List PyData → List PyData → List PyData
  | a :: as, b :: bs => .tuple [a, b] :: pairsD as bs
  | _, _ => []
theorem pairsD_length : ∀ as bs : List PyData, (pairsD as bs).length = min as.length bs.length
  | [], _ => by simp [pairsD]
  | _ :: _, [] => by simp [pairsD]
  | a :: as, b :: bs => by (simp [pairsD, pairsD_length as bs]) <;> omega
theorem pairsD_get : ∀ (as bs : List PyData) (i : Nat) (a b : PyData), as[i]? = some a → bs[i]? = some b → (pairsD as bs)[i]? = some (.tuple [a, b])
  | [], _, _, _, _, h, _ => by simp at h
  | _ :: _, [], _, _, _, _, h => by simp at h
  | a :: as, b :: bs, 0, _, _, h1, h2 => by simp at h1 h2; subst h1 h2; rfl
  | a :: as, b :: bs, i + 1, _, _, h1, h2 => by simp [pairsD]; exact pairsD_get as bs i _ _ (by simpa using h1) (by simpa using h2)
theorem walk_zipT {K : PySem.W.Frag} {a b : Addr} {xs ys : List V} {n : Nat} (hn : n = min xs.length ys.length) : Walk (RZ.ItzT K a b) n (fun H => SqT K H a xs ∧ SqT K H b ys) (YPair (fun i => xs[i]?) (fun i => ys[i]?)) := by
  subst hn
  refine ⟨fun i _ hi q => ?_, fun _ q => ⟨xs, ys, q.1, q.2, by omega⟩, fun i H v H' _ q y => ?_⟩
  · have h1 : i < xs.length := by omega
    have h2 : i < ys.length := by omega
    exact ⟨xs, ys, xs[i], ys[i], q.1, q.2, by simp [h1], by simp [h2]⟩
  · obtain ⟨T, x, z, h1, h2, h3, h4, h5⟩ := y
    exact ⟨T, x, z, h1, h2, h3, h4 xs q.1, h5 ys q.2⟩
/-- zip of two tuples -/
theorem evi_zipT {elts : List Expr} {kk : Nat} {tpos : Pos} (B : Bn X.mg) (h1 : Ev T X a δ (.d (.tuple ds))) (h2 : Ev T X b δ (.d (.tuple ds2))) (hg : Gl X "zip" := by rfl)
    (hs : starEach [a, b] X.env = (false, eval a X.env) :: starEach [b] X.env := by rfl) (hs2 : starEach [b] X.env = (false, eval b X.env) :: starEach [] X.env := by rfl) : Evi T X (.Tuple elts kk tpos) (.Call (.Name "zip" p) [a, b] [] pos) δ (pairsD ds ds2) := by
  refine ⟨_, RZ.pi_zipA hg B.zip (pa_cons (pe_best X) (pa_cons (pe_best X) pa_nil hs2) hs) hs (by rw [hs2]; rfl), fun S σ H ad R k => h1 S σ H ad _ fun v H1 g r => h2 S σ H1 (ad.grow g) _ fun w H2 g2 r2 => ?_⟩
  cases r with
  | tup hq ha => cases r2 with
    | tup hq2 ha2 =>
      refine ⟨_, _, _, _, rfl, .inr ⟨SqT.grow g2 hq, hq2, k _ H2 (g.trans g2) ?_⟩⟩
      have l1 := ha.length
      have l2 := ha2.length
      refine wk_pair (walk_zipT rfl) (fun H3 g3 => ⟨SqT.grow g3 (SqT.grow g2 hq), SqT.grow g3 hq2⟩) (by rw [pairsD_length, l1, l2]) fun S' hS i u v hi e1 e2 => ?_
      obtain ⟨d1, q1, q2⟩ := ((ha.grow g2).more hS).getV e1
      obtain ⟨d2, q3, q4⟩ := (ha2.more hS).getV e2
      exact ⟨d1, d2, pairsD_get _ _ _ _ _ q1 q3, q2, q4⟩
/-! ### targets -/
def tG (X : Cx) (tg : Expr) : TG := fun v σ H Q => ∀ pins s u, Inv X pins σ H s → RelV v u → wpAny (model X.prog X.w) X.A (assign tg X.env u) (fun _ s' => ∃ σ' H', Inv X pins σ' H' s' ∧ Q σ' H') X.xe s
def tGs (X : Cx) (ts : List Expr) : TGs := fun vs σ H Q => ∀ pins s us, Inv X pins σ H s → Vals vs us → wpAny (model X.prog X.w) X.A (assignInOrder ((assignEach ts X.env).map (·.2)) us) (fun _ s' => ∃ σ' H', Inv X pins σ' H' s' ∧ Q σ' H') X.xe s
theorem pg_best : PG X tg (tG X tg) := ⟨fun pins s _ _ _ u _ I r h => h pins s u I r⟩
theorem pgs_best : PGs X es (tGs X es) := ⟨fun pins s _ _ _ u _ I r h => h pins s u I r⟩
/-- but for the slots js as it was -/
def But (js : List Nat) (σ σ' : St) : Prop := σ'.length = σ.length ∧ ∀ j, j ∉ js → σ'[j]? = σ[j]?
/-- d stored in tg: the slots from δ to δ' -/
def Eg (K : PySem.W.Frag) (T : Tbl) (js : List Nat) (g : TG) (δ : Sl) (d : PyData) (δ' : Sl) : Prop := ∀ (S : Addr → Prop) (σ : St) (H : Hp) (v : V), Ad K T S H σ δ → Rp K S H v d → ∀ Q : St → Hp → Prop, (∀ σ', Ad K T S H σ' δ' → But js σ σ' → Q σ' H) → g v σ H Q
def Egs (K : PySem.W.Frag) (T : Tbl) (js : List Nat) (g : TGs) (δ : Sl) (ds : List PyData) (δ' : Sl) : Prop := ∀ (S : Addr → Prop) (σ : St) (H : Hp) (vs : List V), Ad K T S H σ δ → RpA K S H vs ds → ∀ Q : St → Hp → Prop, (∀ σ', Ad K T S H σ' δ' → But js σ σ' → Q σ' H) → g vs σ H Q
def Evg (T : Tbl) (X : Cx) (js : List Nat) (tg : Expr) (δ : Sl) (d : PyData) (δ' : Sl) : Prop := Eg X.K T js (tG X tg) δ d δ'
def Evgs (T : Tbl) (X : Cx) (js : List Nat) (ts : List Expr) (δ : Sl) (ds : List PyData) (δ' : Sl) : Prop := Egs X.K T js (tGs X ts) δ ds δ'
variable {δ' δ2 : Sl}
variable {js js2 : List Nat}
theorem evg_of {g : TG} (h : PG X tg g) (q : Eg X.K T js g δ d δ') : Evg T X js tg δ d δ' := fun S σ H v a r Q k pins s u I rv => h.run pins s σ H v u Q I rv (q S σ H v a r Q k)
theorem evgs_of {g : TGs} (h : PGs X es g) (q : Egs X.K T js g δ ds δ') : Evgs T X js es δ ds δ' := fun S σ H v a r Q k pins s u I rv => h.run pins s σ H v u Q I rv (q S σ H v a r Q k)
theorem evg_n (i : Nat) (hn : X.N.Nodup) (hi : X.N[i]? = some x := by rfl) (hx : Loc X.env.scope x := by first | exact Or.inl rfl | exact Or.inr rfl) (hf : X.fn x = true ∨ X.env.scope.names.lookup x = some .local := by first | exact .inl rfl | exact .inr rfl) :
    Evg T X [i] (.Name x pos) δ d (δ.set i (some (.d d))) := evg_of (pg_name (i := i) hn hi hx hf) fun S σ H v a r Q k => k _ (a.set i r) ⟨List.length_set, fun j hj => List.getElem?_set_ne (fun z => hj (by rw [z]; exact List.mem_singleton.mpr rfl))⟩
theorem evgs_nil : Evgs T X [] [] δ [] δ := evgs_of pgs_nil fun S σ H v a r Q k => by
  cases r
  exact ⟨rfl, k σ a ⟨rfl, fun _ _ => rfl⟩⟩
theorem evgs_cons (h : Evg T X js e δ d δ') (h2 : Evgs T X js2 es δ' ds δ2) (hs : (assignEach (e :: es) X.env).map (·.2) = assign e X.env :: (assignEach es X.env).map (·.2) := by rfl) : Evgs T X (js ++ js2) (e :: es) δ (d :: ds) δ2 :=
  evgs_of (pgs_cons pg_best pgs_best hs) fun S σ H v a r Q k => by
    cases r with
    | cons q qs => exact ⟨_, _, rfl, h S σ H _ a q _ fun σ' a' b => h2 S σ' H _ a' qs Q fun σ2 a2 b2 => k σ2 a2 ⟨b2.1.trans b.1, fun j hj => (b2.2 j fun z => hj (List.mem_append_right _ z)).trans (b.2 j fun z => hj (List.mem_append_left _ z))⟩⟩
theorem evg_tup {k : Nat} (h : Evgs T X js es δ ds δ') (hc : X.calm = true := by rfl) (hn : (assignEach es X.env).length = ds.length := by rfl) (hst : (assignEach es X.env).findIdx? (·.1) = none := by rfl) : Evg T X js (.Tuple es k pos) δ (.tuple ds) δ' :=
  evg_of (pg_tup hc pgs_best hn hst) fun S σ H v a r Q q => by
    cases r with
    | tup hq ha => exact ⟨_, _, rfl, hq, ha.length, h S σ H _ a ha Q q⟩
end
end N

namespace N
open PySem L2 LamX
/-! ### comprehensions -/
theorem wipe_get (σ : St) : ∀ (vs : List Nat) (i : Nat), (L2.wipe σ vs)[i]? = if i ∈ vs then (if i < σ.length then some none else none) else σ[i]?
  | [], i => by simp [L2.wipe]
  | v :: vs, i => by
    unfold L2.wipe
    by_cases h : v = i
    · subst h
      rw [if_pos List.mem_cons_self]
      by_cases hl : v < σ.length
      · rw [if_pos hl, List.getElem?_set_self (by rw [wipe_length]; exact hl)]
      · rw [if_neg hl, List.getElem?_eq_none]
        rw [List.length_set, wipe_length]
        omega
    · rw [List.getElem?_set_ne h, wipe_get σ vs i]
      have e : (i ∈ v :: vs) = (i ∈ vs) := by
        rw [List.mem_cons]
        exact propext ⟨fun z => z.elim (fun q => absurd q.symm h) id, .inr⟩
      simp only [e]
theorem wipe_but {σ σ2 : St} {js vs : List Nat} (h : But js (L2.wipe σ vs) σ2) (hs : ∀ j ∈ js, j ∈ vs) : L2.wipe σ2 vs = L2.wipe σ vs := by
  apply List.ext_getElem?
  intro i
  have hl : σ2.length = σ.length := by rw [h.1, wipe_length]
  rw [wipe_get, wipe_get, hl]
  by_cases hi : i ∈ vs
  · rw [if_pos hi, if_pos hi]
  · rw [if_neg hi, if_neg hi, h.2 i (fun z => hi (hs i z)), wipe_get, if_neg hi]
def tTs (X : Cx) (ifs : List Expr) : L2.TT := fun σ H Q => ∀ pins s, Inv X pins σ H s → wpAny (model X.prog X.w) X.A (forIn ifs true fun c r => if r = true then do let ok ← isTrue c X.env (eval c X.env); pure (ForInStep.yield ok) else pure (ForInStep.yield r)) (TP X pins σ Q) X.xe s
theorem pts_best {X : Cx} {ifs : List Expr} : PTs X ifs (tTs X ifs) := ⟨fun pins s _ _ _ I h => h pins s I⟩
def Evts (T : Tbl) (X : Cx) (ifs : List Expr) (δ : Sl) (b : Bool) : Prop := Et X.K T (tTs X ifs) δ b
section
variable {T : Tbl} {X : Cx} {δ : Sl} {a b c e tg : Expr} {es : List Expr} {pos p : Pos} {x : Str}
theorem evts_nil : Evts T X [] δ true := fun S σ H ad Q k pins s I => pts_nil.run pins s σ H Q I (k H (Gr.refl H))
theorem evts_one {u : Bool} (h : Evt T X c δ u) : Evts T X [c] δ u := fun S σ H ad Q k pins s I => (pts_one (pt_best X)).run pins s σ H Q I (h S σ H ad Q k)
/-- the reading of a comprehension -/
theorem ed_lcR {α : Type} {K : PySem.W.Frag} {wi : TI} {g : TG} {tt : L2.TT} {te : TE} {vs : List Nat} {js : List Nat} (hjs : ∀ j ∈ js, j ∈ vs) (xs : List α) (enc : α → PyData) (p : α → Bool) (f : α → PyData) (hi : Iw K T wi δ (xs.map enc)) (hz : xs.length ≤ 1000000)
    (turn : ∀ x ∈ xs, ∃ δ', Eg K T js g (wipeD δ vs) (enc x) δ' ∧ Et K T tt δ' (p x) ∧ (p x = true → Ed K T te δ' (.d (f x))))
    (S : Addr → Prop) (σ : St) (H : Hp) (ad : Ad K T S H σ δ) (Q : VK) (k : ∀ D H1 H' acc, Gr T H H1 → H1 D = none → Gr T H1 H' → H' D = some (.lst acc) → RpA K S H' acc ((xs.filter p).map f) → Q (.ref D) H') : tLc wi g tt te vs σ H Q := by
  refine hi S σ H ad _ fun J H1 g1 wk D hD => ?_
  have ad1 := ad.grow g1
  let S' : Addr → Prop := fun b => S b ∨ b = D
  have hS' : ∀ b, S' b → S b ∨ H1 b = none := fun b h => h.elim .inl fun z => .inr (by rw [z]; exact hD)
  let res : Nat → List PyData := fun i => ((xs.take i).filter p).map f
  have hlen : (xs.map enc).length = xs.length := List.length_map ..
  have hrl : ∀ i, (res i).length ≤ 1000000 := fun i => by
    show (((xs.take i).filter p).map f).length ≤ _
    rw [List.length_map]
    exact Nat.le_trans (List.length_filter_le _ _) (Nat.le_trans (by rw [List.length_take]; exact Nat.min_le_right _ _) hz)
  refine ⟨fun i m H => m = xs.length - i ∧ i ≤ xs.length ∧ Gr T H1 H ∧ ∃ acc, H D = some (.lst acc) ∧ RpA K S' H acc (res i), ⟨xs.length, rfl, Nat.zero_le _, Gr.new hD, [], upd_same, by show RpA K S' _ [] (((xs.take 0).filter p).map f); rw [List.take_zero]; exact .nil⟩, ?_⟩
  rintro i m H2 ⟨rfl, hi2, g2, acc, hacc, racc⟩
  obtain ⟨w1, w2, w3⟩ := wk H2 g2
  by_cases hlt : i < xs.length
  · refine .inr ⟨w1 i (by rw [hlen]; exact hlt), fun H' => i + 1 ≤ xs.length ∧ Gr T H1 H' ∧ ∃ acc, H' D = some (.lst acc) ∧ RpA K S' H' acc (res (i + 1)), fun H' q => ⟨xs.length - (i + 1), by omega, rfl, q.1, q.2⟩, fun x H3 y => ?_⟩
    obtain ⟨g3, hx⟩ := w3 i x H3 (by rw [hlen]; exact hlt) y
    obtain ⟨d, hd, rx⟩ := hx S' hS'
    have hxi : xs[i]? = some xs[i] := by simp [hlt]
    rw [List.getElem?_map, hxi] at hd
    have hd : enc xs[i] = d := Option.some.inj hd
    subst hd
    obtain ⟨δ', t1, t2, t3⟩ := turn xs[i] (List.getElem_mem hlt)
    have hD3 : H3 D = some (.lst acc) := g3.1 _ _ hacc (fun ps z => by cases z)
    have g13 := g2.trans g3
    have sok3 : Sok S' H3 := fun b hb => by
      rcases hb with hb | hb
      · exact ad1.sok.mono g13 b hb
      · rw [hb]; exact ⟨_, hD3, trivial⟩
    have ad3 : Ad K T S' H3 (L2.wipe σ vs) (wipeD δ vs) := ⟨sok3, (ad1.grow g13).tab, ((ad1.sd.more hS').grow g13).wipe vs⟩
    refine t1 S' _ H3 x ad3 rx _ fun σ2 ad4 bt => ⟨wipe_but bt hjs, t2 S' σ2 H3 ad4 _ fun H4 g4 => ?_⟩
    have htk : xs.take (i + 1) = xs.take i ++ [xs[i]] := List.take_succ_eq_append_getElem hlt
    cases hp : p xs[i] with
    | false =>
      rw [if_neg (by simp)]
      have e : res (i + 1) = res i := by
        show ((xs.take (i + 1)).filter p).map f = _
        rw [htk, List.filter_append, List.filter_cons_of_neg (by rw [hp]; exact Bool.false_ne_true), List.filter_nil, List.append_nil]
      exact ⟨hlt, g13.trans g4, acc, g4.1 _ _ hD3 (fun ps z => by cases z), by rw [e]; exact (racc.grow g3).grow g4⟩
    | true =>
      rw [if_pos rfl]
      refine t3 hp S' σ2 H4 (ad4.grow g4) _ fun y H5 g5 ry => ?_
      have hD5 : H5 D = some (.lst acc) := g5.1 _ _ (g4.1 _ _ hD3 (fun ps z => by cases z)) (fun ps z => by cases z)
      have e : res (i + 1) = res i ++ [f xs[i]] := by
        show ((xs.take (i + 1)).filter p).map f = _
        rw [htk, List.filter_append, List.filter_cons_of_pos hp, List.filter_nil, List.map_append]
        rfl
      have la := racc.length
      refine ⟨acc, hD5, small_lt (by rw [la]; exact hrl i), hlt, ((g13.trans g4).trans g5).mut hD hD5 trivial, _, upd_same, ?_⟩
      rw [e]
      exact (((racc.grow g3).grow g4).grow g5 |>.append (.cons ry .nil)).mut hD5 (.inr rfl) trivial
  · have e : i = xs.length := by omega
    subst e
    rw [hlen] at w2
    have e2 : res xs.length = (xs.filter p).map f := by
      show ((xs.take xs.length).filter p).map f = _
      rw [List.take_length]
    refine .inl ⟨w2, k D H1 H2 acc g1 hD g2 hacc ?_⟩
    rw [← e2]
    exact racc.more fun b h => .inl (.inl h)
theorem ed_lc {α : Type} {K : PySem.W.Frag} {wi : TI} {g : TG} {tt : L2.TT} {te : TE} {vs : List Nat} {js : List Nat} (hjs : ∀ j ∈ js, j ∈ vs) (xs : List α) (enc : α → PyData) (p : α → Bool) (f : α → PyData) (hi : Iw K T wi δ (xs.map enc)) (hz : xs.length ≤ 1000000)
    (turn : ∀ x ∈ xs, ∃ δ', Eg K T js g (wipeD δ vs) (enc x) δ' ∧ Et K T tt δ' (p x) ∧ (p x = true → Ed K T te δ' (.d (f x)))) : Ed K T (tLc wi g tt te vs) δ (.d (.list ((xs.filter p).map f))) := fun S σ H ad Q k =>
  ed_lcR hjs xs enc p f hi hz turn S σ H ad Q fun D H1 H' acc g1 hD g2 hacc r => k _ H' (g1.trans g2) (Rp.lst (.inl ⟨((ad.grow g1).sok).fresh hD, .inl hacc⟩) r)
/-- over every block of X's comprehension -/
def bG (X : Cx) (scope : Scope) (tg : Expr) : TG := fun v σ H Q => ∀ (s : Shared) (H0 : Hp) (C : Addr) (cl : List (Str × Addr)) (fp : List Addr), tG (X.blk s H0 scope (compEnvC scope cl C X.env) fp) tg v σ H Q
def bT (X : Cx) (scope : Scope) (ifs : List Expr) : L2.TT := fun σ H Q => ∀ (s : Shared) (H0 : Hp) (C : Addr) (cl : List (Str × Addr)) (fp : List Addr), tTs (X.blk s H0 scope (compEnvC scope cl C X.env) fp) ifs σ H Q
def bE (X : Cx) (scope : Scope) (elt : Expr) : TE := fun σ H Q => ∀ (s : Shared) (H0 : Hp) (C : Addr) (cl : List (Str × Addr)) (fp : List Addr), tB (X.blk s H0 scope (compEnvC scope cl C X.env) fp) elt σ H Q
/-- a turn's three parts in every block -/
def Turns (T : Tbl) (X : Cx) (scope : Scope) (vs : List Nat) (tg : Expr) (ifs : List Expr) (elt : Expr) (δ : Sl) (js : List Nat) (d : PyData) (p : Bool) (f : PyData) : Prop :=
  ∃ δ', ∀ (s : Shared) (H0 : Hp) (C : Addr) (cl : List (Str × Addr)) (fp : List Addr), Evg T (X.blk s H0 scope (compEnvC scope cl C X.env) fp) js tg (wipeD δ vs) d δ' ∧ Evts T (X.blk s H0 scope (compEnvC scope cl C X.env) fp) ifs δ' p ∧
    (p = true → Ev T (X.blk s H0 scope (compEnvC scope cl C X.env) fp) elt δ' (.d f))
theorem turns_ed {α : Type} {scope : Scope} {vs js : List Nat} {ifs : List Expr} {elt : Expr} {xs : List α} {enc : α → PyData} {p : α → Bool} {f : α → PyData} (h : ∀ x ∈ xs, Turns T X scope vs tg ifs elt δ js (enc x) (p x) (f x)) :
    ∀ x ∈ xs, ∃ δ', Eg X.K T js (bG X scope tg) (wipeD δ vs) (enc x) δ' ∧ Et X.K T (bT X scope ifs) δ' (p x) ∧ (p x = true → Ed X.K T (bE X scope elt) δ' (.d (f x))) := fun x hx => by
  obtain ⟨δ', q⟩ := h x hx
  exact ⟨δ', fun S σ H v a r Q k s H0 C cl fp => (q s H0 C cl fp).1 S σ H v a r Q k, fun S σ H a Q k s H0 C cl fp => (q s H0 C cl fp).2.1 S σ H a Q k, fun hp S σ H a Q k s H0 C cl fp => (q s H0 C cl fp).2.2 hp S σ H a Q k⟩
theorem bG_ok {scope : Scope} (s : Shared) (H : Hp) (C : Addr) (cl : List (Str × Addr)) (fp : List Addr) : PG (X.blk s H scope (compEnvC scope cl C X.env) fp) tg (bG X scope tg) := ⟨fun pins s2 _ _ _ u _ I r h => h s H C cl fp pins s2 u I r⟩
theorem bT_ok {scope : Scope} {ifs : List Expr} (s : Shared) (H : Hp) (C : Addr) (cl : List (Str × Addr)) (fp : List Addr) : PTs (X.blk s H scope (compEnvC scope cl C X.env) fp) ifs (bT X scope ifs) := ⟨fun pins s2 _ _ _ I h => h s H C cl fp pins s2 I⟩
theorem bE_ok {scope : Scope} {elt : Expr} (s : Shared) (H : Hp) (C : Addr) (cl : List (Str × Addr)) (fp : List Addr) : PE (X.blk s H scope (compEnvC scope cl C X.env) fp) elt (bE X scope elt) := ⟨fun pins s2 _ _ _ I h => h s H C cl fp pins s2 I⟩
/-- [elt for tg in iter if ..] -/
theorem ev_lc {α : Type} {elt iter : Expr} {ifs : List Expr} {scope : Scope} (own : List (Str × Nat)) {js : List Nat} (xs : List α) (enc : α → PyData) (p : α → Bool) (f : α → PyData) (hN : X.N.Nodup) (hok : blkC X.N X.env.scope scope own = true)
    (hi : Evi T X tg iter δ (xs.map enc)) (hz : xs.length ≤ 1000000) (turn : ∀ x ∈ xs, Turns T X scope (own.map (·.2)) tg ifs elt δ js (enc x) (p x) (f x)) (hjs : ∀ j ∈ js, j ∈ own.map (·.2) := by decide) (hc : X.calm = true := by rfl)
    (hs : ∀ x, foldedSetIterable iter X.env x = pure x := by intro _; rfl) : Ev T X (.ListComp elt [⟨tg, iter, ifs, 0⟩] scope pos) δ (.d (.list ((xs.filter p).map f))) := by
  obtain ⟨wi, h1, h2⟩ := hi
  exact ev_of (pe_lc hc hN h1 (blkOk_by hok) bG_ok bT_ok bE_ok hs) (ed_lc hjs xs enc p f h2 hz (turns_ed turn))
theorem evs_lc {α : Type} {elt iter : Expr} {ifs : List Expr} {scope : Scope} {y : Str} {py spos : Pos} (i : Nat) (own : List (Str × Nat)) {js : List Nat} (xs : List α) (enc : α → PyData) (p : α → Bool) (f : α → PyData) (hN : X.N.Nodup) (hok : blkC X.N X.env.scope scope own = true)
    (hi : Evi T X tg iter δ (xs.map enc)) (hz : xs.length ≤ 1000000) (turn : ∀ x ∈ xs, Turns T X scope (own.map (·.2)) tg ifs elt δ js (enc x) (p x) (f x)) (hsw : swapsWith (.ListComp elt [⟨tg, iter, ifs, 0⟩] scope pos) (some (.Name y py)) spos.line X.env = pure true) (hjs : ∀ j ∈ js, j ∈ own.map (·.2) := by decide) (hc : X.calm = true := by rfl)
    (hs : ∀ x, foldedSetIterable iter X.env x = pure x := by intro _; rfl) (hy : X.N[i]? = some y := by rfl) (hyl : X.env.scope.names.lookup y = some .local := by rfl) :
    Evs T X (.Assign [.Name y py] (.ListComp elt [⟨tg, iter, ifs, 0⟩] scope pos) spos) δ (.nx (δ.set i (some (.d (.list ((xs.filter p).map f)))))) := by
  obtain ⟨wi, h1, h2⟩ := hi
  exact evs_of (ps_setLc (i := i) hc hN hy hyl hsw h1 (blkOk_by hok) bG_ok bT_ok bE_ok hs) fun S σ H ad D k => ed_lc hjs xs enc p f h2 hz (turns_ed turn) S σ H ad _ fun v H1 g r => k _ H1 g ((ad.grow g).set i r)
end
/-! ### statements -/
section
variable {T : Tbl} {X : Cx} {δ δ' : Sl} {a b c e tg : Expr} {es : List Expr} {pos p : Pos} {x : Str} {r : E} {z : Res} {st : Stmt} {rest body orelse : List Stmt}
theorem evb_nil : Evb T X [] δ (.nx δ) := evb_of pss_nil fun S σ H ad D k => k σ H (Gr.refl H) ad
theorem Fin.grow {K : PySem.W.Frag} {S : Addr → Prop} {H H1 : Hp} {D : Ends} (g : Gr T H H1) (h : Fin K T S H D z) : Fin K T S H1 D z := by
  cases z with
  | nx δ => exact fun σ' H' g2 a => h σ' H' (g.trans g2) a
  | rt e => exact fun v H' g2 s t q => h v H' (g.trans g2) s t q
  | bk δ => exact fun σ' H' g2 a => h σ' H' (g.trans g2) a
  | ct δ => exact fun σ' H' g2 a => h σ' H' (g.trans g2) a
theorem evb_cons (h : Evs T X st δ (.nx δ')) (h2 : Evb T X rest δ' z) : Evb T X (st :: rest) δ z :=
  evb_of (pss_cons (ps_best X) (pss_best X)) fun S σ H ad D k => h S σ H ad _ fun σ1 H1 g a1 => h2 S σ1 H1 a1 D (k.grow g)
/-- it leaves the block -/
def Res.out : Res → Bool
  | .nx _ => false
  | _ => true
theorem evb_out (h : Evs T X st δ z) (ho : z.out = true := by rfl) : Evb T X (st :: rest) δ z :=
  evb_of (pss_cons (ps_best X) (pss_best X)) fun S σ H ad D k => h S σ H ad _ (by
    cases z with
    | nx δ => cases ho
    | rt e => exact k
    | bk δ => exact k
    | ct δ => exact k)
theorem evb_one (h : Evs T X st δ z) : Evb T X [st] δ z :=
  evb_of (pss_one (ps_best X)) fun S σ H ad D k => h S σ H ad D k
theorem evs_ret (h : Ev T X e δ r) : Evs T X (.Return (some e) pos) δ (.rt r) := evs_of (ps_ret (pe_best X)) fun S σ H ad D k => h S σ H ad _ fun v H1 g q => k v H1 g (ad.grow g).sok (ad.grow g).tab q
theorem evs_expr (h : Ev T X e δ r) (hs : swapsWith e none pos.line X.env = pure false := by rfl) : Evs T X (.Expr e pos) δ (.nx δ) := evs_of (ps_expr (pe_best X) hs) fun S σ H ad D k => h S σ H ad _ fun v H1 g q => k σ H1 g (ad.grow g)
theorem evs_if {u : Bool} (h : Evt T X c δ u) (h1 : u = true → Evb T X body δ z) (h2 : u = false → Evb T X orelse δ z) : Evs T X (.If c body orelse pos) δ z :=
  evs_of (ps_if (pt_best X) (pss_best X) (pss_best X)) fun S σ H ad D k => h S σ H ad _ fun H1 g => by
    cases u with
    | true => exact h1 rfl S σ H1 (ad.grow g) D (k.grow g)
    | false => exact h2 rfl S σ H1 (ad.grow g) D (k.grow g)
theorem evs_set (i : Nat) (h : Ev T X e δ r) (hN : X.N.Nodup) {p' : Pos} (hi : X.N[i]? = some x := by rfl) (hx : Loc X.env.scope x := by first | exact Or.inl rfl | exact Or.inr rfl) (hs : swapsWith e (some (.Name x p')) pos.line X.env = pure false := by rfl)
    (hf : X.fn x = true ∨ X.env.scope.names.lookup x = some .local := by first | exact .inl rfl | exact .inr rfl) : Evs T X (.Assign [.Name x p'] e pos) δ (.nx (δ.set i (some r))) :=
  evs_of (ps_set (i := i) hN hi hx (pe_best X) hs hf) fun S σ H ad D k => h S σ H ad _ fun v H1 g q => k _ H1 g ((ad.grow g).set i q)
theorem evs_par {y : Str} {k k2 : Nat} {px py pt pt2 : Pos} (i j : Nat) {r2 : E} (h1 : Ev T X a δ r) (h2 : Ev T X b δ r2) (hN : X.N.Nodup) (hi : X.N[i]? = some x := by rfl) (hj : X.N[j]? = some y := by rfl) (hij : i ≠ j := by decide)
    (hx : X.env.scope.names.lookup x = some .local := by rfl) (hy : X.env.scope.names.lookup y = some .local := by rfl) (hs : starEach [a, b] X.env = (false, eval a X.env) :: starEach [b] X.env := by rfl) (hs2 : starEach [b] X.env = (false, eval b X.env) :: starEach [] X.env := by rfl)
    (hw : swappedStores [.Tuple [.Name x px, .Name y py] k pt] (.Tuple [a, b] k2 pt2) X.env = pure (some [x, y]) := by rfl)
    (hsw : swapsWithSole [.Tuple [.Name x px, .Name y py] k pt] (.Tuple [a, b] k2 pt2) pos.line X.env = pure false := by rfl) (hc : X.calm = true := by rfl) :
    Evs T X (.Assign [.Tuple [.Name x px, .Name y py] k pt] (.Tuple [a, b] k2 pt2) pos) δ (.nx ((δ.set i (some r)).set j (some r2))) :=
  evs_of (ps_par hc hN hi hj hij hx hy (pa_cons (pe_best X) (pa_cons (pe_best X) pa_nil hs2) hs) hw hsw) fun S σ H ad D q => h1 S σ H ad _ fun v H1 g r1 => h2 S σ H1 (ad.grow g) _ fun w H2 g2 r2' =>
    ⟨v, w, rfl, q _ H2 (g.trans g2) ((((ad.grow g).grow g2).set i (r1.grow g2)).set j r2')⟩
/-- tg = e, whatever the target -/
theorem evs_asg {d : PyData} {js : List Nat} (h : Ev T X e δ (.d d)) (hg : Evg T X js tg δ d δ') (hs : swapsWithSole [tg] e pos.line X.env = pure false := by rfl) (hw : swappedStores [tg] e X.env = pure none := by rfl)
    (h1 : (assignEach [tg] X.env).map (·.2) = [assign tg X.env] := by rfl) : Evs T X (.Assign [tg] e pos) δ (.nx δ') :=
  evs_of (ps_asg (pe_best X) pg_best hs hw h1) fun S σ H ad D k => h S σ H ad _ fun v H1 g r => hg S σ H1 v (ad.grow g) r _ fun σ2 a2 _ => k σ2 H1 g a2
/-- the turns of a for -/
inductive ForRun (run : Sl → PyData → Res → Prop) : List PyData → Sl → Res → Prop
  | nil {δ : Sl} : ForRun run [] δ (.nx δ)
  | next {d : PyData} {ds : List PyData} {δ δ' : Sl} {z : Res} : run δ d (.nx δ') → ForRun run ds δ' z → ForRun run (d :: ds) δ z
  | cont {d : PyData} {ds : List PyData} {δ δ' : Sl} {z : Res} : run δ d (.ct δ') → ForRun run ds δ' z → ForRun run (d :: ds) δ z
  | ret {d : PyData} {ds : List PyData} {δ : Sl} {e : E} : run δ d (.rt e) → ForRun run (d :: ds) δ (.rt e)
  | brk {d : PyData} {ds : List PyData} {δ δ' : Sl} : run δ d (.bk δ') → ForRun run (d :: ds) δ (.nx δ')
def Turn1 (T : Tbl) (X : Cx) (tg : Expr) (body : List Stmt) (δ : Sl) (d : PyData) (z : Res) : Prop := ∃ δ1 js, Evg T X js tg δ d δ1 ∧ Evb T X body δ1 z
theorem evs_for {ds : List PyData} {iter : Expr} (hi : Evi T X tg iter δ ds) (h : ForRun (Turn1 T X tg body) ds δ z) (hp : PassesOwn (model X.prog X.w) X.A X.env X.xe := by exact PassesOwn.never) (hc : X.calm = true := by rfl) (hs : ∀ x, foldedSetIterable iter X.env x = pure x := by intro _; rfl) :
    Evs T X (.For tg iter body [] pos) δ z := by
  obtain ⟨wi, h1, h2⟩ := hi
  refine evs_of (ps_for hp hc h1 pg_best (pss_best X) hs) fun S σ H ad D k => h2 S σ H ad _ fun J H1 g1 wk => ?_
  refine ⟨fun i m σ2 H2 => m = ds.length - i ∧ i ≤ ds.length ∧ Gr T H1 H2 ∧ ∃ δ2, Ad X.K T S H2 σ2 δ2 ∧ ForRun (Turn1 T X tg body) (ds.drop i) δ2 z, ⟨ds.length, rfl, Nat.zero_le _, Gr.refl _, δ, ad.grow g1, h⟩, ?_⟩
  rintro i m σ2 H2 ⟨rfl, hi2, g2, δ2, ad2, run⟩
  obtain ⟨w1, w2, w3⟩ := wk H2 g2
  by_cases hlt : i < ds.length
  · refine .inr ⟨w1 i hlt, fun σ' H' => i + 1 ≤ ds.length ∧ Gr T H1 H' ∧ ∃ δ2, Ad X.K T S H' σ' δ2 ∧ ForRun (Turn1 T X tg body) (ds.drop (i + 1)) δ2 z, fun σ' H' q => ⟨ds.length - (i + 1), by omega, rfl, q.1, q.2⟩, fun x H3 y => ?_⟩
    obtain ⟨g3, hx⟩ := w3 i x H3 hlt y
    obtain ⟨d, hd, rx⟩ := hx S fun b h => .inl h
    have hdd : ds.drop i = d :: ds.drop (i + 1) := by
      rw [List.drop_eq_getElem_cons hlt]
      congr 1
      have := List.getElem?_eq_getElem hlt
      rw [this] at hd
      exact Option.some.inj hd
    have g13 := (g1.trans g2).trans g3
    rw [hdd] at run
    cases run with
    | next r1 r2 =>
      obtain ⟨δ1, js, q1, q2⟩ := r1
      exact q1 S σ2 H3 x (ad2.grow g3) rx _ fun σ4 a4 _ => q2 S σ4 H3 a4 _ fun σ5 H5 g5 a5 => ⟨hlt, (g2.trans g3).trans g5, _, a5, r2⟩
    | cont r1 r2 =>
      obtain ⟨δ1, js, q1, q2⟩ := r1
      exact q1 S σ2 H3 x (ad2.grow g3) rx _ fun σ4 a4 _ => q2 S σ4 H3 a4 _ fun σ5 H5 g5 a5 => ⟨hlt, (g2.trans g3).trans g5, _, a5, r2⟩
    | ret r1 =>
      obtain ⟨δ1, js, q1, q2⟩ := r1
      exact q1 S σ2 H3 x (ad2.grow g3) rx _ fun σ4 a4 _ => q2 S σ4 H3 a4 _ fun v H5 g5 s5 t5 r5 => k v H5 (g13.trans g5) s5 t5 r5
    | brk r1 =>
      obtain ⟨δ1, js, q1, q2⟩ := r1
      exact q1 S σ2 H3 x (ad2.grow g3) rx _ fun σ4 a4 _ => q2 S σ4 H3 a4 _ fun σ5 H5 g5 a5 => k σ5 H5 (g13.trans g5) a5
  · have e : i = ds.length := by omega
    subst e
    rw [List.drop_length] at run
    cases run
    exact .inl ⟨w2, k σ2 H2 (g1.trans g2) ad2⟩
/-- what is forgotten -/
theorem evb_le {δ0 : Sl} (l : Le δ0 δ) (h : Evb T X rest δ0 z) : Evb T X rest δ z := fun S σ H ad D k => h S σ H (ad.le l) D k
theorem evs_le {δ0 : Sl} (l : Le δ0 δ) (h : Evs T X st δ0 z) : Evs T X st δ z := fun S σ H ad D k => h S σ H (ad.le l) D k
theorem evb_nx {δ0 : Sl} (l : Le δ0 δ') (h : Evb T X rest δ (.nx δ')) : Evb T X rest δ (.nx δ0) := fun S σ H ad D k => h S σ H ad D fun σ' H' g a => k σ' H' g (a.le l)
end
/-! ### defs -/
def spN {α : Type} (K : PySem.W.Frag) (T : Tbl) (enc : α → List E) (pre : α → Prop) (res : α → E) : Sp := fun vs H Q _ => ∃ (S : Addr → Prop) (a : α), Sok S H ∧ Tabs T H ∧ REA K S H vs (enc a) ∧ pre a ∧ ∀ v H', Gr T H H' → RE K S H' v (res a) → Q v H'
/-- the def that the module's name x holds keeps the promise sp -/
structure Dfn (P : Program) (w : World) (K : PySem.W.Frag) (mg : Str → Option Value) (base : Heap) (x : Str) (k : Nat) (ps : List Str) (sp : Sp) : Prop where
  ex : ∃ (f : Addr) (fd : FuncData), FnOk P w K mg base CX0 k f fd ps sp ∧ mg x = some (.ref f) ∧ PySem.W.keepIn K (.ref f) = true ∧ Binds K fd ps []
def Ends' : Res → E → Prop
  | .rt e, e' => e = e'
  | .nx _, e' => e' = .d .none
  | _, _ => False
section
variable {P : Program} {w : World} {K : PySem.W.Frag} {mg : Str → Option Value} {base : Heap} {T : Tbl}
theorem fn_mkN {α : Type} {enc : α → List E} {pre : α → Prop} {res : α → E} {x qual : Str} {st : Stmt} {f : Addr} {fd : FuncData} {N ps : List Str} {k : Nat} (F : Fun K x qual st f fd) (S : FnScope N ps (defScope st)) (hl : ∀ a, (enc a).length = ps.length)
    (body : ∀ (cdv : Value) (A : Around) (outer : List Env) (s : Shared) (H : Hp) (E : XK), Room k (A.deeper (PyProof.Rows.envOfC qual (defScope st) s.heap.objs.size f cdv)) → ∀ a, pre a →
      ∃ z, Evb T (cxOf CX0 P w K mg base N qual (defScope st) f cdv A outer s H E).nox (defBody st) (startD N (enc a)) z ∧ Ends' z (res a)) : FnOk P w K mg base CX0 (k + 1) f fd ps (spN K T enc pre res) := by
  refine F.ok S (fun vs H Q E h => ?_) fun cdv A outer s H vs Q E hr h => ?_
  · obtain ⟨S, a, _, _, r, _⟩ := h
    rw [r.length]
    exact hl a
  · obtain ⟨S, a, sk, tb, r, hp, q⟩ := h
    obtain ⟨z, hb, he⟩ := body cdv A outer s H E hr a hp
    refine ⟨_, pss_best _, hb S (L2.start N vs) H ⟨sk, tb, SD.start r⟩ _ ?_⟩
    cases z with
    | rt e =>
      have he : e = res a := he
      subst he
      exact fun v H' g _ _ r' => q v H' g r'
    | nx δ' =>
      have he : res a = .d .none := he
      rw [he] at q
      exact fun σ' H' g _ => q _ H' g Rp.non
    | bk δ => exact he.elim
    | ct δ => exact he.elim
theorem dfn_mk {sp : Sp} {x qual : Str} {st : Stmt} {f : Addr} {fd : FuncData} {ps : List Str} {k : Nat} (F : Fun K x qual st f fd) (hm : mg x = some (.ref f)) (b : Binds K fd ps []) (h : FnOk P w K mg base CX0 k f fd ps sp) : Dfn P w K mg base x k ps sp := ⟨f, fd, h, hm, F.kp, b⟩
end
section
variable {T : Tbl} {X : Cx} {δ : Sl} {e o : Expr} {es : List Expr} {pos p apos : Pos} {x m : Str}
theorem ev_call {α : Type} {enc : α → List E} {pre : α → Prop} {res : α → E} {k : Nat} {ps : List Str} (D : Dfn X.prog X.w X.K X.mg X.base x k ps (spN X.K T enc pre res)) (hr : Room k X.A) (a : α) (h : Eva T X (e :: es) δ (enc a)) (hp : pre a) (hg : Gl X x := by rfl)
    (hdb : (x == ("__debug__" : Str)) = false := by decide) (he : starEach (e :: es) X.env = (false, eval e X.env) :: starEach es X.env := by rfl) (hpl : (backTo pos (starEach es X.env)).any (·.1) = false := by rfl) : Ev T X (.Call (.Name x p) (e :: es) [] pos) δ (res a) := by
  obtain ⟨f, fd, F, hm, hk, hb⟩ := D.ex
  refine ev_of (pe_call F hr hg hm hk hb .nil pass0 (pa_best X) hdb he hpl) fun S σ H ad Q k => h S σ H ad _ fun vs H1 g r => ?_
  rw [List.append_nil]
  exact ⟨S, a, (ad.grow g).sok, (ad.grow g).tab, r, hp, fun v H2 g2 r2 => k v H2 (g.trans g2) r2⟩
/-- the same, the promise's data named by the answer -/
theorem ev_callI {α : Type} {enc : α → List E} {pre : α → Prop} {res : α → E} {k : Nat} {ps : List Str} {r : E} (D : Dfn X.prog X.w X.K X.mg X.base x k ps (spN X.K T enc pre res)) (hr : Room k X.A) (a : α) (h : Eva T X (e :: es) δ (enc a)) (hp : pre a) (hres : res a = r) (hg : Gl X x := by rfl)
    (hdb : (x == ("__debug__" : Str)) = false := by decide) (he : starEach (e :: es) X.env = (false, eval e X.env) :: starEach es X.env := by rfl) (hpl : (backTo pos (starEach es X.env)).any (·.1) = false := by rfl) : Ev T X (.Call (.Name x p) (e :: es) [] pos) δ r := hres ▸ ev_call D hr a h hp hg hdb he hpl
/-- o.f of an instance that is told -/
theorem ev_fld {y C : Addr} {fs : List (Str × PyData)} {nm : List Str} {f : Str} {d : PyData} (h : Ev T X o δ (.ob y C fs nm)) (c : Cls X.K C) (n : NoAttr X.K C f) (hf : fs.lookup f = some d) (hb : attributeBase o f X.env (eval o X.env) = eval o X.env := by rfl) : Ev T X (.Attribute o f pos) δ (.d d) :=
  ev_of (pe_fld (pe_best X) hb) fun S σ H ad Q k => h S σ H ad _ fun v H1 g r => by
    obtain ⟨rfl, dx, fs', h2, h3, h4⟩ := r
    obtain ⟨u, q1, q2⟩ := h3 f d hf
    exact ⟨_, C, dx, fs', u, rfl, h2, c, n, q1, k u H1 g q2⟩
/-- the method m of the class at C keeps the promise sp -/
structure Mdn (P : Program) (w : World) (K : PySem.W.Frag) (mg : Str → Option Value) (base : Heap) (C : Addr) (m : Str) (k : Nat) (ps : List Str) (sp : Sp) : Prop where
  ex : ∃ (f : Addr) (fd : FuncData), FnOk P w K mg base CX0 k f fd ps sp ∧ Meth K C m f ∧ Binds K fd ps []
theorem ev_meth0 {α : Type} {enc : α → List E} {pre : α → Prop} {res : α → E} {k : Nat} {ps : List Str} {y C : Addr} {fs : List (Str × PyData)} {nm : List Str} (D : Mdn X.prog X.w X.K X.mg X.base C m k ps (spN X.K T enc pre res)) (c : Cls X.K C) (hr : Room k X.A) (a : α)
    (h : Ev T X o δ (.ob y C fs nm)) (hnm : m ∉ nm) (ha : enc a = [.ob y C fs nm]) (hp : pre a) {pl : Sem Bool}
    (he : eval (.Call (.Attribute o m apos) [] [] pos) X.env = (do
      let ov ← eval o X.env
      standAt apos.atName
      let (f, first) ← holding [ov] (getMethod ov m pl)
      callWith pos f first (backTo pos (starEach [] X.env)) (backToKw pos (keywordEach [] X.env))) := by rfl) : Ev T X (.Call (.Attribute o m apos) [] [] pos) δ (res a) := by
  obtain ⟨f, fd, F, hm, hb⟩ := D.ex
  refine ev_of (pe_meth0 (pl := pl) (pe_best X) c hm F hr hb .nil pass0 he) fun S σ H ad Q k => h S σ H ad _ fun v H1 g r => ?_
  obtain ⟨rfl, dx, fs', h2, h3, h4⟩ := r
  refine ⟨_, dx, fs', rfl, h2, h4 m hnm, S, a, (ad.grow g).sok, (ad.grow g).tab, ?_, hp, fun v H2 g2 r2 => k v H2 (g.trans g2) r2⟩
  rw [ha]
  exact .cons ⟨rfl, dx, fs', h2, h3, h4⟩ .nil
theorem ev_meth {α : Type} {enc : α → List E} {pre : α → Prop} {res : α → E} {k : Nat} {ps : List Str} {y C : Addr} {fs : List (Str × PyData)} {nm : List Str} {rs : List E} (D : Mdn X.prog X.w X.K X.mg X.base C m k ps (spN X.K T enc pre res)) (c : Cls X.K C) (hr : Room k X.A) (a : α)
    (h : Ev T X o δ (.ob y C fs nm)) (h2 : Eva T X (e :: es) δ rs) (hnm : m ∉ nm) (ha : enc a = .ob y C fs nm :: rs) (hp : pre a) {pl : Sem Bool}
    (hse : starEach (e :: es) X.env = (false, eval e X.env) :: starEach es X.env := by rfl) (hpl : (backTo pos (starEach es X.env)).any (·.1) = false := by rfl)
    (he : eval (.Call (.Attribute o m apos) (e :: es) [] pos) X.env = (do
      let ov ← eval o X.env
      standAt apos.atName
      let (f, first) ← holding [ov] (getMethod ov m pl)
      callWith pos f first (backTo pos (starEach (e :: es) X.env)) (backToKw pos (keywordEach [] X.env))) := by rfl) : Ev T X (.Call (.Attribute o m apos) (e :: es) [] pos) δ (res a) := by
  obtain ⟨f, fd, F, hm, hb⟩ := D.ex
  refine ev_of (pe_meth (pl := pl) (pe_best X) c hm F hr hb .nil pass0 (pa_best X) hse hpl he) fun S σ H ad Q k => h S σ H ad _ fun v H1 g r => ?_
  obtain ⟨rfl, dx, fs', q2, q3, q4⟩ := r
  refine ⟨_, dx, fs', rfl, q2, q4 m hnm, h2 S σ H1 (ad.grow g) _ fun vs H2 g2 r2 => ⟨S, a, ((ad.grow g).grow g2).sok, ((ad.grow g).grow g2).tab, ?_, hp, fun v H3 g3 r3 => k v H3 ((g.trans g2).trans g3) r3⟩⟩
  rw [ha, List.append_nil]
  exact .cons (RE.grow g2 (e := .ob _ C fs nm) ⟨rfl, dx, fs', q2, q3, q4⟩) r2
end
end N

namespace N
open PySem L2 LamX
section
variable {T : Tbl} {X : Cx} {δ : Sl} {a b c e : Expr} {es : List Expr} {i j : Int} {r : E} {d : PyData} {ds : List PyData} {pos p : Pos} {x : Str}
/-! ### isinstance of a built-in class -/
def tyD : PyData → Option String
  | .bool _ => some "bool"
  | .int _ => some "int"
  | .str _ => some "str"
  | .tuple _ => some "tuple"
  | _ => none
theorem tyX {K : PySem.W.Frag} {S : Addr → Prop} {H : Hp} {v : V} {d : PyData} {ty : String} (r : Rp K S H v d) (h : tyD d = some ty) : TyX K H v (.type ty) := by
  cases r with
  | non => cases h
  | bl b => cases h; exact .base (.bl b)
  | int b => cases h; exact .base (.int b)
  | str b => cases h; exact .base (.str b)
  | lst => cases h
  | tup hq _ =>
    cases h
    rcases hq with (q | ⟨o, q⟩) | ⟨o, its, n, q, hc, _⟩
    · exact .base (.tup q)
    · exact .fTuple q
    · exact .kTuple q hc
theorem ev_isi {ty : String} {u : Bool} {t : Str} {cn : String} {p2 : Pos} (B : Bn X.mg) (h : Ev T X a δ (.d d)) (ht : tyD d = some ty) (hk : kitB ty cn = some u) (hg2 : Gl X t) (hm2 : X.mg t = none) (hv2 : bootBuiltins t = some (.type cn)) (hn : t ≠ "__name__" := by decide) (hdb : (t == ("__debug__" : Str)) = false := by decide)
    (hg : Gl X "isinstance" := by rfl) (hs : starEach [a, .Name t p2] X.env = (false, eval a X.env) :: starEach [.Name t p2] X.env := by rfl) (hs2 : starEach [.Name t p2] X.env = (false, eval (.Name t p2) X.env) :: starEach [] X.env := by rfl) :
    Ev T X (.Call (.Name "isinstance" p) [a, .Name t p2] [] pos) δ (.d (.bool u)) :=
  ev_of (pe_callB call_isi hg B.isinstance (by decide +kernel) (pa_cons (pe_best X) (pa_cons (pe_bltn (v := .ty cn) hg2 hm2 hv2 rfl hn hdb) pa_nil hs2) hs) (he := hs) (hpl := by rw [hs2]; rfl)) fun S σ H ad Q k => h S σ H ad _ fun v H1 g r =>
    ⟨v, .ty cn, _, _, u, rfl, .ty cn, tyX r ht, kit_ty hk, k _ H1 g (Rp.bl _)⟩
theorem ev_isInt {u : Bool} {ty : String} {p2 : Pos} (B : Bn X.mg) (h : Ev T X a δ (.d d)) (ht : tyD d = some ty := by rfl) (hk : kitB ty "int" = some u := by decide +kernel) (hg : Gl X "isinstance" := by rfl) (hg2 : Gl X "int" := by rfl)
    (hs : starEach [a, .Name "int" p2] X.env = (false, eval a X.env) :: starEach [.Name "int" p2] X.env := by rfl) : Ev T X (.Call (.Name "isinstance" p) [a, .Name "int" p2] [] pos) δ (.d (.bool u)) := ev_isi B h ht hk hg2 B.int (by decide +kernel) (hg := hg) (hs := hs)
theorem ev_isBool {u : Bool} {ty : String} {p2 : Pos} (B : Bn X.mg) (h : Ev T X a δ (.d d)) (ht : tyD d = some ty := by rfl) (hk : kitB ty "bool" = some u := by decide +kernel) (hg : Gl X "isinstance" := by rfl) (hg2 : Gl X "bool" := by rfl)
    (hs : starEach [a, .Name "bool" p2] X.env = (false, eval a X.env) :: starEach [.Name "bool" p2] X.env := by rfl) : Ev T X (.Call (.Name "isinstance" p) [a, .Name "bool" p2] [] pos) δ (.d (.bool u)) := ev_isi B h ht hk hg2 B.bool (by decide +kernel) (hg := hg) (hs := hs)
theorem ev_isTup {u : Bool} {ty : String} {p2 : Pos} (B : Bn X.mg) (h : Ev T X a δ (.d d)) (ht : tyD d = some ty := by rfl) (hk : kitB ty "tuple" = some u := by decide +kernel) (hg : Gl X "isinstance" := by rfl) (hg2 : Gl X "tuple" := by rfl)
    (hs : starEach [a, .Name "tuple" p2] X.env = (false, eval a X.env) :: starEach [.Name "tuple" p2] X.env := by rfl) : Ev T X (.Call (.Name "isinstance" p) [a, .Name "tuple" p2] [] pos) δ (.d (.bool u)) := ev_isi B h ht hk hg2 B.tuple (by decide +kernel) (hg := hg) (hs := hs)
theorem ev_isStr {u : Bool} {ty : String} {p2 : Pos} (B : Bn X.mg) (h : Ev T X a δ (.d d)) (ht : tyD d = some ty := by rfl) (hk : kitB ty "str" = some u := by decide +kernel) (hg : Gl X "isinstance" := by rfl) (hg2 : Gl X "str" := by rfl)
    (hs : starEach [a, .Name "str" p2] X.env = (false, eval a X.env) :: starEach [.Name "str" p2] X.env := by rfl) : Ev T X (.Call (.Name "isinstance" p) [a, .Name "str" p2] [] pos) δ (.d (.bool u)) := ev_isi B h ht hk hg2 B.str (by decide +kernel) (hg := hg) (hs := hs)
/-! ### a <= b <= c, a <= b < c -/
theorem ed_chain {K : PySem.W.Frag} {ta tb tc : TE} {f g : Int → Int → Bool} {l m n : Int} (h1 : Ed K T ta δ (.d (.int l))) (h2 : Ed K T tb δ (.d (.int m))) (h3 : Ed K T tc δ (.d (.int n))) : Ed K T (tChain (rI0 fun i j => .bl (f i j)) (rI0 fun i j => .bl (g i j)) ta tb tc) δ (.d (.bool (f l m && g m n))) := fun S σ H ad Q k =>
  h1 S σ H ad _ fun v H1 g1 r1 => h2 S σ H1 (ad.grow g1) _ fun w H2 g2 r2 => ⟨l, m, Rp.int_inv r1, Rp.int_inv r2, _, rfl, by
    cases e : f l m with
    | true =>
      exact h3 S σ H2 ((ad.grow g1).grow g2) _ fun u H3 g3 r3 => ⟨m, n, Rp.int_inv r2, Rp.int_inv r3, k _ H3 ((g1.trans g2).trans g3) (by first | exact Rp.bl _ | (rw [e, Bool.true_and]; exact Rp.bl _))⟩
    | false =>
      exact k _ H2 (g1.trans g2) (by first | exact Rp.bl _ | (rw [e, Bool.false_and]; exact Rp.bl _))⟩
theorem ev_leLe {l m n : Int} (h1 : Ev T X a δ (.d (.int l))) (h2 : Ev T X b δ (.d (.int m))) (h3 : Ev T X c δ (.d (.int n))) (hm : lastMarks [.LtE, .LtE] [b, c] = false := by with_unfolding_all rfl) : Ev T X (.Compare a [.LtE, .LtE] [b, c] pos) δ (.d (.bool (decide (l ≤ m) && decide (m ≤ n)))) :=
  ev_of (pe_chain op_le op_le (pe_best X) (pe_best X) (pe_best X) hm) (ed_chain (f := fun i j => decide (i ≤ j)) (g := fun i j => decide (i ≤ j)) h1 h2 h3)
theorem ev_leLt {l m n : Int} (h1 : Ev T X a δ (.d (.int l))) (h2 : Ev T X b δ (.d (.int m))) (h3 : Ev T X c δ (.d (.int n))) (hm : lastMarks [.LtE, .Lt] [b, c] = false := by with_unfolding_all rfl) : Ev T X (.Compare a [.LtE, .Lt] [b, c] pos) δ (.d (.bool (decide (l ≤ m) && decide (m < n)))) :=
  ev_of (pe_chain op_le op_lt (pe_best X) (pe_best X) (pe_best X) hm) (ed_chain (f := fun i j => decide (i ≤ j)) (g := fun i j => decide (i < j)) h1 h2 h3)
end
end N

namespace N
open PySem L2 LamX
/-! ### a lambda with one parameter, called; what it gives, exactly -/
section
variable {prog : Program} {w : World} {A : Around} {s : Shared}
theorem lam1_call {f c' : Addr} {qual : Str} {params : Arguments} {body : Expr} {scope : Scope} {cl : List (Str × Addr)} {pm ctv v : Value} {a : Str} {k : PyData} (hroom : A.depth < recursionLimit)
    (hf : s.heap.get? f = some (PySem.W.kla_obj "<lambda>" qual params body scope cl pm c' ctv)) (hcd : s.heap.CodeRec (.ref c') qual) (lim : s.heap.NoLimit) (hk : scope.kind = .function) (hco : scope.isCoroutine = false) (hgen : scope.isGenerator = false)
    (hbind : bindArgs (PySem.W.kla_fn "<lambda>" qual params body scope cl pm (.ref c') ctv) ⟨[v], []⟩ = pure [(a, v)]) (hcell : ∀ y ∈ scope.names, y.2 ≠ .cell) (hloc : scope.names.lookup a = some .local)
    (hbody : ∀ h₁ : Heap, h₁.Ns s.heap.objs.size (fun y => ([(a, v)] : List (Str × Value)).reverse.lookup y) → (∀ b o, s.heap.get? b = some o → h₁.get? b = some o) →
      wpAny (model prog w) (A.deeper (PySem.W.envX qual scope s.heap.objs.size f (.ref c') cl)) (eval body (PySem.W.envX qual scope s.heap.objs.size f (.ref c') cl)) (PySem.W.KeyPure k s) (fun _ _ => False) { s with heap := h₁, toks := s.toks + 1 }) :
    wpAny (model prog w) A (call (.ref f) [v]) (PySem.W.KeyPure k s) (fun _ _ => False) s := by
  have rc : codeAny (model prog w) A (.call (.ref f) ⟨[v], []⟩) (fun r s' => match r with | .ok (.ret u) => PySem.W.KeyPure k s u s' | _ => False) s := by
    refine PySem.W.kla_callFunE hroom hf rfl hco hgen rfl hcd ?_
    rw [hbind]
    refine wpAny_pure (wpAny_newFunctionEnv hcell (fun y hy => ?_) (fun h₁ hns hsb => ⟨?_, ?_⟩) hk)
    · have e : y = (a, v) := by simpa using hy
      rw [e]
      exact hloc
    · exact lim.fresh _ hsb
    · have kp : ∀ b o, s.heap.get? b = some o → h₁.get? b = some o := fun b o e => hsb.extBut b o (Nat.ne_of_lt (Heap.lt_size e)) (Heap.get?_push_of_some _ e)
      show codeAny _ _ (.expr body (PySem.W.envX qual scope s.heap.objs.size f (.ref c') cl)) _ _
      exact PySem.W.kla_codeExpr (wpAny_mono (hbody h₁ hns kp) (fun u s' hq => hq) fun e s' z => z.elim)
  refine wpAny_call (codeAny_mono rc fun r s' hq => ?_)
  cases r with
  | error e => exact hq.elim
  | ok fl =>
    cases fl with
    | ret u => exact hq
    | next => exact hq.elim
    | brk => exact hq.elim
    | cont => exact hq.elim
/-- t[i], the tuple as it stands -/
theorem item_tupS {E : Value → Shared → Prop} {value slice : Expr} {t : Addr} {its : List Value} {i : Nat} {u : Tok} {x : Value} {Q : Value → Shared → Prop} (ht : PyProof.Rows.IsTup s.heap t its.toArray) (hz : its.length ≤ sizeLine) (hx : its[i]? = some x) (h : Q x s)
    (hs : subscripted slice false (.ref t) (.int i u) = operate [.ref t, .int i u] (getItem (.ref t) (.int i u))) : wpAny (model prog w) A (PyProof.Rows.subscriptTail value slice (.ref t) (.int i u)) Q E s := by
  have hi : i < its.length := (List.getElem?_eq_some_iff.mp hx).1
  have hn := line63
  exact PyProof.Rows.subscriptTail_builtinR (x := x) ht.typeIs PyProof.Rows.slot_tuple_getitem.lookup
    (PyProof.Rows.getItem_tuple (j := i) (Q := fun r s' => r = x ∧ Q r s') ht (by omega) (by omega) (by rw [List.size_toArray]; exact PySem.seqIndex_of (by omega) (by omega) |>.trans (by simp)) (by simpa using hx) ⟨rfl, h⟩) hs
end
/-- what a read tuple is -/
theorem reads_tup {h : Heap} {v : Value} {ds : List PyData} {as : List Addr} (r : Reads h v (.tuple ds) as) : ∃ (t : Addr) (its : List Value), v = .ref t ∧ PyProof.Rows.IsTup h t its.toArray ∧ ReadsAll h its ds as := by
  cases r with
  | tuple e1 e2 e3 ra => exact ⟨_, _, rfl, ⟨_, e1, e2, _, e3⟩, ra⟩
theorem readsAll_get {h : Heap} : ∀ {its : List Value} {ds : List PyData} {as : List Addr} {i : Nat} {d : PyData}, ReadsAll h its ds as → ds[i]? = some d → ∃ v bs, its[i]? = some v ∧ Reads h v d bs
  | _, _, _, 0, _, .cons r _, e => by
    simp at e
    subst e
    exact ⟨_, _, rfl, r⟩
  | _, _, _, i + 1, _, .cons _ r, e => by
    obtain ⟨v, bs, e1, e2⟩ := readsAll_get (i := i) r (by simpa using e)
    exact ⟨v, bs, by simpa using e1, e2⟩
  | _, _, _, _, _, .nil, e => by simp at e
theorem readsAll_length {h : Heap} : ∀ {its : List Value} {ds : List PyData} {as : List Addr}, ReadsAll h its ds as → its.length = ds.length
  | _, _, _, .nil => rfl
  | _, _, _, .cons _ r => by rw [List.length_cons, List.length_cons, readsAll_length r]
/-- a list or a tuple -/
def seqD : Bool → List PyData → PyData
  | true, ds => .list ds
  | false, ds => .tuple ds
theorem reads_seq {h : Heap} {v : Value} {b : Bool} {ds : List PyData} {as : List Addr} (r : Reads h v (seqD b ds) as) : ∃ (t : Addr) (its : List Value) (bs : List Addr), v = .ref t ∧ ReadsAll h its ds bs ∧
    ∀ {prog : Program} {w : World} {A : Around} {s : Shared} {E : Value → Shared → Prop} {value slice : Expr} {i : Nat} {u : Tok} {x : Value} {Q : Value → Shared → Prop}, (∀ b o, h.get? b = some o → s.heap.get? b = some o) → its.length ≤ sizeLine → its[i]? = some x → Q x s →
      (subscripted slice false (.ref t) (.int i u) = operate [.ref t, .int i u] (getItem (.ref t) (.int i u))) → wpAny (model prog w) A (PyProof.Rows.subscriptTail value slice (.ref t) (.int i u)) Q E s := by
  cases b with
  | false =>
    obtain ⟨t, its, rfl, ht, ra⟩ := reads_tup r
    exact ⟨t, its, _, rfl, ra, fun kp hz hx hq hs => item_tupS (ht.keeps kp) hz hx hq hs⟩
  | true =>
    cases r with
    | list e1 e2 e3 ra =>
      rename_i a o vs n as'
      refine ⟨a, vs.toList, _, rfl, ra, fun {prog w A s E value slice i u x Q} kp hz hx hq hs => ?_⟩
      have hl : s.heap.IsList a vs.toList.toArray := ⟨_, kp _ _ e1, e2, n, by simpa using e3⟩
      have hi : i < vs.toList.length := (List.getElem?_eq_some_iff.mp hx).1
      have hn := line63
      exact PyProof.Rows.item_listR hl (by omega) (by omega) (by simpa using hx) hq hs
mutual
theorem reads_keep {h h' : Heap} (k : ∀ b o, h.get? b = some o → h'.get? b = some o) : ∀ {v : Value} {d : PyData} {as : List Addr}, Reads h v d as → Reads h' v d as
  | _, _, _, .none => .none
  | _, _, _, .bool b => .bool b
  | _, _, _, .int i t => .int i t
  | _, _, _, .str x t => .str x t
  | _, _, _, .list e c d r => .list (k _ _ e) c d (readsAll_keep k r)
  | _, _, _, .tuple e c d r => .tuple (k _ _ e) c d (readsAll_keep k r)
  | _, _, _, .dict e c d r1 r2 => .dict (k _ _ e) c d (readsAll_keep k r1) (readsAll_keep k r2)
theorem readsAll_keep {h h' : Heap} (k : ∀ b o, h.get? b = some o → h'.get? b = some o) : ∀ {v : List Value} {d : List PyData} {as : List Addr}, ReadsAll h v d as → ReadsAll h' v d as
  | _, _, _, .nil => .nil
  | _, _, _, .cons r q => .cons (reads_keep k r) (readsAll_keep k q)
end
end N

namespace N
open PySem L2 LamX
section
variable {prog : Program} {w : World} {A : Around} {E : Value → Shared → Prop} {s : Shared}
/-- sorted(range(n), key=f) -/
theorem sorted_key_rng {r f : Addr} {n : Nat} {b : Int} {t u v : Tok} (k : Nat → PyData) {Q : Value → Shared → Prop} (hh : A.handled = none) (hr : IsRange s.heap r 0 b 1 t u v) (hb : b = (n : Int)) (hn : n ≤ 100000)
    (hal : PySem.W.AllAlike ((List.range n).map k)) (hk : PySem.W.Sortable ((List.range n).map k)) (hu : ∀ x, x ∈ List.range n → A.units + 2 + (k x).depth < cLine)
    (turn : ∀ (x : Nat) (t : Tok), x < n → ∀ (h : Heap) (tk : Nat), (∀ b o, s.heap.get? b = some o → h.get? b = some o) →
      wpAny (model prog w) A.in1.in1 (call (.ref f) [.int (x : Int) t]) (PySem.W.KeyPure (k x) { s with heap := h, toks := tk }) (fun _ _ => False) { s with heap := h, toks := tk })
    (h : ∀ (h1 : Heap) (out : List Value) (c : Nat) (h' : Heap) (tk : Nat), (∀ b o, s.heap.get? b = some o → h1.get? b = some o) → (∀ b o, h1.get? b = some o → h'.get? b = some o) → h'.get? h1.objs.size = some { cls := .type "list", data := .seq out.toArray c } →
      PySem.W.EachIs (fun v (x : Nat) => ∃ t, v = Value.int (x : Int) t) out ((List.range n).mergeSort (PySem.W.dataLe false k)) → Q (.ref h1.objs.size) { s with heap := h', toks := tk }) :
    wpAny (model prog w) A (call (.builtin "sorted") [.ref r] [(Str.ofString "key", .ref f)]) Q E s := by
  subst hb
  refine PyProof.Rows.call_function_entry_kw PyProof.Rows.kind_sorted PyProof.Rows.plain_sorted PyProof.Rows.entry_sorted (PyProof.Rows.ksk_s1 _ _) ?_
  unfold Builtin.«sorted»
  refine wpAny_bind (m := checkCount "sorted" 1 1 _) (wpAny_pure ?_)
  refine wpAny_bind (L2.collect_range (n := n) (show A.in1.handled = none from hh) hr (small_one (by omega) (by omega) (by omega) (by omega)) (by have := PyProof.Rows.rangeSize_nat 0 (n : Int); rw [this]; omega) (by omega) fun h1 tk1 acc hk1 hi => ?_)
  have hsz : acc.size = n := hi.1
  refine wpAny_bind (wpAny_newList ?_ (by rw [Array.length_toList, hsz, sizeLine_eq]; omega))
  have hL : (h1.push { cls := Value.type "list", data := .seq acc.toList.toArray }).get? h1.objs.size = some (PyProof.Rows.seqObj "list" acc.toList.toArray 0) := Heap.get?_push_size _ rfl
  have e : PySem.W.EachIs (fun v (x : Nat) => ∃ t, v = Value.int (x : Int) t) acc.toList (List.range n) := by
    have gen : ∀ (l : List Value) (m : Nat), (∀ j v, l[j]? = some v → ∃ t, v = Value.int ((m + j : Nat) : Int) t) → PySem.W.EachIs (fun v (x : Nat) => ∃ t, v = Value.int (x : Int) t) l (List.range' m l.length) := by
      intro l
      induction l with
      | nil => exact fun m _ => .nil
      | cons a l ih =>
        intro m hm
        refine .cons ?_ (ih (m + 1) fun j v q => ?_)
        · obtain ⟨t, q⟩ := hm 0 a rfl
          exact ⟨t, q⟩
        · obtain ⟨t, q'⟩ := hm (j + 1) v (by simpa using q)
          exact ⟨t, by rw [q']; congr 2; omega⟩
    have g := gen acc.toList 0 fun j v q => by
      obtain ⟨t, q'⟩ := hi.2 j v (by simpa using q)
      refine ⟨t, ?_⟩
      rw [q']
      congr 1
      omega
    rw [Array.length_toList, hsz] at g
    rw [List.range_eq_range']
    exact g
  have up : ∀ b o, s.heap.get? b = some o → (h1.push { cls := Value.type "list", data := .seq acc.toList.toArray }).get? b = some o := fun b o q => Heap.get?_push_of_some _ (hk1 b o q)
  have ne : ∀ b o, s.heap.get? b = some o → b ≠ h1.objs.size := fun b o q => Nat.ne_of_lt (Heap.lt_size (hk1 b o q))
  refine wpAny_bind (wpAny_holding ?_)
  refine PySem.W.list_sort_key_data (A := A.in1) (b := false) (n := 0) k hL e hal hk (by rw [List.length_range, sizeLine_eq]; omega) (fun x hx => by
    have q := hu x hx
    show A.units + 1 + 1 + _ < _
    omega) (PyProof.Rows.ksk_l1 _ _) (PyProof.Rows.ksk_t1 _ _) (fun v x hR hx h2 tk2 kp => ?_) fun out c h2 tk2 kp ho hlen hout => ?_
  · obtain ⟨t, rfl⟩ := hR
    exact turn x t (List.mem_range.mp hx) h2 tk2 fun b o q => kp b o (ne b o q) (up b o q)
  · exact wpAny_pure ⟨_, rfl, h h1 out c h2 tk2 hk1 (fun b o q => kp b o (Nat.ne_of_lt (Heap.lt_size q)) (Heap.get?_push_of_some _ q)) ho hout⟩
end
end N

namespace N
open PySem L2 LamX
section
variable {T : Tbl} {X : Cx} {pins : List (Addr × Obj)} {σ : L2.St} {H : Hp} {s : Shared}
/-- sorted(e, key=lambda ..): the argument, the lambda, then the call -/
theorem sortcall {Q : VK} {e : Expr} {ta : TE} {params : Arguments} {body : Expr} {scope : Scope} {p lpos kpos pos : Pos} {c P : Addr} (I : Inv X pins σ H s) (ha : PE X e ta) (B : Bn X.mg)
    (TB : TabB X.base X.mg c P) (hcode : X.env.code = .ref c) (hmT : (P, X.env.qual ++ "<lambda>") ∈ T) (hu : ∀ p ∈ T, p.1 = P → p.2 = X.env.qual ++ "<lambda>") (hdef : defaultsOf params X.env = ([], []))
    (hfree : ∀ y ∈ scope.names, y.2 = .free → ∃ c, X.env.cells.lookup y.1 = some c)
    (h : ta σ H fun v H1 => Tabs T H1 ∧ ∀ H2, Gr T H1 H2 → ∀ (u : Value) (s2 : Shared) (f c' : Addr) (pm ctv : Value), RelV v u → Inv X pins σ H2 s2 →
      s2.heap.get? f = some (PySem.W.kla_obj "<lambda>" (X.env.qual ++ "<lambda>") params body scope (cloFrom X.env.cells scope.names []) pm c' ctv) → s2.heap.CodeRec (.ref c') (X.env.qual ++ "<lambda>") →
      wpAny (model X.prog X.w) X.A (call (.builtin "sorted") [u] [(Str.ofString "key", .ref f)]) (EP X pins σ Q) X.xe s2)
    (hg : Gl X "sorted" := by rfl) (hs : starEach [e] X.env = (false, eval e X.env) :: starEach [] X.env := by rfl) :
    wpAny (model X.prog X.w) X.A (eval (.Call (.Name "sorted" p) [e] [⟨some "key", .Lambda params body scope lpos, kpos⟩] pos) X.env) (EP X pins σ Q) X.xe s := by
  refine wpAny_Call_Name_kw (ld_blt I hg B.sorted (show bootBuiltins "sorted" = some (.builtin "sorted") by decide +kernel) ?_)
  refine PyProof.Rows.callWith_kw (L2.one_arg ha I h (fun v s1 x H1 I1 r1 q1 => ?_) hs) (by rw [hs]; rfl) (by rw [hs]; rfl) (by rfl) (by rfl)
  obtain ⟨t1, q1⟩ := q1
  show wpAny _ _ (evalAll [(do let v ← eval (.Lambda params body scope lpos) X.env; standAt pos; pure v)]) _ _ s1
  refine wpAny_evalAll_cons (wpAny_bind (lam_make2 I1 TB hcode hmT hu t1 hdef hfree fun f c' pm ctv H2 s2 I2 ex t2 hf _ _ hc => wpAny_bind (wpAny_standAt (wpAny_pure (wpAny_evalAll_nil ?_)))))
  obtain ⟨⟨oc, vs, t, e1, e2, e3⟩, _, _⟩ := I2.hok c' _ hc
  exact q1 H2 ⟨ex, fun _ => t2⟩ v s2 f c' pm ctv r1 I2 hf ⟨c', oc, vs, t, rfl, e1, e2, e3⟩
/-- a captured name's cell, kept in what is newer -/
theorem cell_of {i : Nat} {y : Str} {v : V} {scope : Scope} (I : Inv X pins σ H s) (hN : X.N[i]? = some y) (hv : σ[i]? = some (some v)) (hk : X.env.scope.names.lookup y = some .cell) (hy : (y, NameKind.free) ∈ scope.names) :
    ∃ (c : Addr) (u : Value), RelV v u ∧ (cloFrom X.env.cells scope.names []).lookup y = some c ∧ s.heap.IsCell c (some u) := by
  obtain ⟨m, hn, hl⟩ := I.loc
  obtain ⟨u, r, l⟩ := hl i y v hN hv (.inr (.inl hk))
  rcases l with ⟨k, _⟩ | ⟨_, c, e, hc⟩
  · have k : X.env.scope.names.lookup y = some .local := k
    rw [hk] at k
    cases k
  · obtain ⟨c2, h2⟩ := mem_lookup (cloFrom_has (cells := X.env.cells) (acc := []) hy)
    refine ⟨c, u, r, ?_, hc⟩
    rcases cloFrom_mem (PySem.mem_of_lookup h2) with hm | ⟨_, q⟩
    · cases hm
    · rw [h2, q, e]
      rfl
end
/-! ### the two keys -/
def ordKey (st : List (Int × Int × Int)) (n : Nat) : PyData := .tuple [.int ((st.getD n (0, 0, 0)).2.1), .int (n : Int)]
def stayD (s : Int × Int × Int) : PyData := .tuple [.int s.1, .int s.2.1, .int s.2.2]
def staysD (l : List (Int × Int × Int)) : PyData := .tuple (l.map stayD)
def staysB (b : Bool) (l : List (Int × Int × Int)) : PyData := seqD b (l.map stayD)
section
variable {prog : Program} {w : World} {A : Around} {s s0 : Shared}
/-- (stays[number][1], number) -/
theorem key_order {f c' c : Addr} {qual : Str} {params : Arguments} {scope : Scope} {cl : List (Str × Addr)} {pm ctv : Value} {bq : Bool} {st : List (Int × Int × Int)} {as : List Addr} {u : Value} {n : Nat} {t : Tok} {q1 q2 q3 q4 q5 q6 q7 : Pos} {j k : Nat}
    (hroom : A.depth < recursionLimit) (hf : s.heap.get? f = some (PySem.W.kla_obj "<lambda>" qual params (.Tuple [.Subscript (.Subscript (.Name "stays" q1) (.Name "number" q2) q3) (.Constant (.int 1) j q4) q5, .Name "number" q6] k q7) scope cl pm c' ctv))
    (hcd : s.heap.CodeRec (.ref c') qual) (lim : s.heap.NoLimit) (hk : scope.kind = .function) (hco : scope.isCoroutine = false) (hgen : scope.isGenerator = false)
    (hbind : bindArgs (PySem.W.kla_fn "<lambda>" qual params (.Tuple [.Subscript (.Subscript (.Name "stays" q1) (.Name "number" q2) q3) (.Constant (.int 1) j q4) q5, .Name "number" q6] k q7) scope cl pm (.ref c') ctv) ⟨[.int (n : Int) t], []⟩ = pure [(("number" : Str), Value.int (n : Int) t)])
    (hcell : ∀ y ∈ scope.names, y.2 ≠ .cell) (hloc : scope.names.lookup ("number" : Str) = some .local) (hfr : scope.names.lookup ("stays" : Str) = some .free) (hcl : cl.lookup ("stays" : Str) = some c) (hc : s.heap.IsCell c (some u)) (hr : Reads s.heap u (staysB bq st) as) (hn : n < st.length) (hz : st.length ≤ 1000) :
    wpAny (model prog w) A (call (.ref f) [.int (n : Int) t]) (PySem.W.KeyPure (ordKey st n) s) (fun _ _ => False) s := by
  refine lam1_call hroom hf hcd lim hk hco hgen hbind hcell hloc fun h₁ hns kp => ?_
  obtain ⟨a, its, bs0, rfl, ra, item⟩ := reads_seq hr
  have hst : (st.map stayD)[n]? = some (stayD st[n]) := by rw [List.getElem?_map, List.getElem?_eq_getElem hn]; rfl
  obtain ⟨v1, bs, e1, r1⟩ := readsAll_get ra hst
  obtain ⟨a1, its1, rfl, ht1, ra1⟩ := reads_tup r1
  obtain ⟨v2, bs2, e2, r2⟩ := readsAll_get (i := 1) ra1 rfl
  have hl := readsAll_length ra
  have hl1 := readsAll_length ra1
  rw [List.length_map] at hl
  have hc1 : h₁.IsCell c (some (.ref a)) := by
    obtain ⟨o, ho, hd⟩ := hc
    exact ⟨o, kp _ _ ho, hd⟩
  have hnum : (([(("number" : Str), Value.int (n : Int) t)] : List (Str × Value)).reverse.lookup ("number" : Str)) = some (.int (n : Int) t) := rfl
  cases r2 with
  | int i2 t2 =>
    refine wpAny_Tuple_spliced (PyProof.Rows.args_cons ?_ (by rfl))
    refine PyProof.Rows.Subscript_ (PyProof.Rows.Subscript_ ?_)
    refine wpAny_Name (wpAny_loadName_free hk hfr hcl hc1 ?_) (by decide)
    refine wpAny_Name (wpAny_loadName_local hk hloc hns hnum ?_) (by decide)
    refine item kp (small_of (by omega)) e1 ?_ rfl
    refine wpAny_Constant_int ?_
    refine item_tupS (i := 1) (ht1.keeps kp) (small_of (by rw [hl1]; exact Nat.le_of_ble_eq_true rfl)) e2 ?_ rfl
    refine PyProof.Rows.args_cons (wpAny_Name (wpAny_loadName_local hk hloc hns hnum ?_) (by decide)) (by rfl)
    refine PyProof.Rows.args_nil ⟨by show 2 ≤ sizeLine; decide, _, _, rfl, fun b o e => Heap.get?_push_of_some _ (kp b o e), ?_⟩
    have e : (st.getD n (0, 0, 0)).2.1 = st[n].2.1 := by
      rw [List.getD_eq_getElem?_getD, List.getElem?_eq_getElem hn]
      rfl
    unfold ordKey
    rw [e]
    exact Reads.tuple (Heap.get?_push_size _ rfl) rfl rfl (.cons (.int _ _) (.cons (.int _ _) .nil))
/-- (len(lot), lot) -/
def lotKey (l : List Int) : PyData := .tuple [.int (l.length : Int), .tuple (l.map .int)]
theorem key_lot {mg : Str → Option Value} {f c' : Addr} {qual : Str} {params : Arguments} {scope : Scope} {cl : List (Str × Addr)} {pm ctv : Value} {l : List Int} {u : Value} {q1 q2 q3 q4 q5 : Pos} {k : Nat}
    (hroom : A.depth < recursionLimit) (hf : s.heap.get? f = some (PySem.W.kla_obj "<lambda>" qual params (.Tuple [.Call (.Name "len" q1) [.Name "lot" q2] [] q3, .Name "lot" q4] k q5) scope cl pm c' ctv))
    (hcd : s.heap.CodeRec (.ref c') qual) (lim : s.heap.NoLimit) (hk : scope.kind = .function) (hco : scope.isCoroutine = false) (hgen : scope.isGenerator = false)
    (hbind : bindArgs (PySem.W.kla_fn "<lambda>" qual params (.Tuple [.Call (.Name "len" q1) [.Name "lot" q2] [] q3, .Name "lot" q4] k q5) scope cl pm (.ref c') ctv) ⟨[u], []⟩ = pure [(("lot" : Str), u)])
    (hcell : ∀ y ∈ scope.names, y.2 ≠ .cell) (hloc : scope.names.lookup ("lot" : Str) = some .local) (hgl : scope.names.lookup ("len" : Str) = some .globalImplicit) (hm : mg "len" = none) (gm : s.heap.Ns mainGlobals mg) (gb : ∃ mb, s.heap.Ns builtinsNs mb ∧ ∀ x : Str, x ≠ "__name__" → mb x = bootBuiltins x)
    (hr : Reads s.heap u (.tuple (l.map .int)) []) (hz : l.length ≤ 1000) :
    wpAny (model prog w) A (call (.ref f) [u]) (PySem.W.KeyPure (lotKey l) s) (fun _ _ => False) s := by
  refine lam1_call hroom hf hcd lim hk hco hgen hbind hcell hloc fun h₁ hns kp => ?_
  obtain ⟨a, its, rfl, ht, ra⟩ := reads_tup hr
  have hl := readsAll_length ra
  rw [List.length_map] at hl
  have hnum : (([(("lot" : Str), Value.ref a)] : List (Str × Value)).reverse.lookup ("lot" : Str)) = some (.ref a) := rfl
  obtain ⟨mb, b1, b2⟩ := gb
  refine wpAny_Tuple_spliced (PyProof.Rows.args_cons ?_ (by rfl))
  refine wpAny_Call_Name_kw (Calls.Name_function_global hk hgl (Calls.loadGlobal_builtin (gm.keeps kp) hm (b1.keeps kp) ((b2 "len" (by decide)).trans PySem.boot_len) ?_) (by decide))
  refine PyProof.Rows.callWith_builtin1 (PyProof.Rows.args_cons (wpAny_Name (wpAny_loadName_local hk hloc hns hnum (PyProof.Rows.args_nil ?_)) (by decide)) (by rfl)) (by rfl) (by rfl)
  refine PyProof.Rows.len_tuple (ht.keeps kp) (by rw [List.size_toArray, hl]; omega) ?_
  refine PyProof.Rows.args_cons (wpAny_Name (wpAny_loadName_local hk hloc hns hnum ?_) (by decide)) (by rfl)
  refine PyProof.Rows.args_nil ⟨by show 2 ≤ sizeLine; decide, _, _, rfl, fun b o e => Heap.get?_push_of_some _ (kp b o e), ?_⟩
  unfold lotKey
  rw [List.size_toArray, hl]
  have hr2 : Reads (h₁.push { cls := Value.type "tuple", data := .seq [Value.int (l.length : Nat) (s.toks + 1 + 1), .ref a].toArray }) (.ref a) (.tuple (l.map .int)) [] := reads_keep (fun b o e => Heap.get?_push_of_some _ (kp b o e)) hr
  exact Reads.tuple (as := [] ++ ([] ++ [])) (Heap.get?_push_size _ rfl) rfl rfl (.cons (.int _ _) (.cons hr2 .nil))
end
end N

namespace N
open PySem L2 LamX
section
variable {X : Cx}
theorem cr_range1 : CallR X (.type "range") (fun vs H Q => ∃ j, vs = [V.int j] ∧ ∀ p, H p = none → Q (.ref p) (upd H p (.rng 0 j))) := by
  intro pins s σ H vs us Q I r h
  obtain ⟨j, rfl, q⟩ := h
  obtain ⟨u, rfl, t, rfl⟩ := vals1 r
  refine call_range_1 ⟨.ref s.heap.objs.size, upd H s.heap.objs.size (.rng 0 j), I.laid (t' := s.toks + 1 + 1) (fun b o e => Heap.get?_push_of_some _ e) (Nat.le_refl _) ?_, rfl, q _ (I.hok.fresh (Nat.le_refl _))⟩
  exact ⟨_, _, _, Heap.get?_push_size _ rfl⟩
end
/-- the numbers by first night, then by number -/
def inOrder (st : List (Int × Int × Int)) : List Nat := (List.range st.length).mergeSort (PySem.W.dataLe false (ordKey st))
theorem each_vals {out : List Value} {ns : List Nat} (h : PySem.W.EachIs (fun v (x : Nat) => ∃ t, v = Value.int (x : Int) t) out ns) : Vals (ns.map fun (n : Nat) => V.int (n : Int)) out := by
  induction h with
  | nil => exact .nil
  | cons r _ ih =>
    obtain ⟨t, rfl⟩ := r
    exact .cons ⟨t, rfl⟩ ih
theorem alike_order (st : List (Int × Int × Int)) (l : List Nat) : PySem.W.AllAlike (l.map (ordKey st)) := PySem.W.AllAlike.of fun a b => by
  unfold ordKey
  simp [PySem.W.alike, PySem.W.alikeAll]
theorem depth_order (st : List (Int × Int × Int)) (n : Nat) : (ordKey st n).depth ≤ 8 := by
  unfold ordKey
  simp [PyData.depth, PyData.depthAll]
section
variable {T : Tbl} {X : Cx} {δ : Sl}
theorem ev_inOrder {bq : Bool} {st : List (Int × Int × Int)} {c P : Addr} {params : Arguments} {scope : Scope} {p p2 p3 p4 p5 p6 q1 q2 q3 q4 q5 q6 q7 lpos kpos pos : Pos} {j k : Nat} (i : Nat) (B : Bn X.mg) (hr : Room 3 X.A) (hi : X.N[i]? = some ("stays" : Str)) (hd : δ[i]? = some (some (.d (staysB bq st)))) (hz : st.length ≤ 1000)
    (hcl : X.env.scope.names.lookup ("stays" : Str) = some .cell) (hsc : scope.names = [(("number" : Str), NameKind.local), (("stays" : Str), NameKind.free)]) (hk : scope.kind = .function) (hco : scope.isCoroutine = false) (hgen : scope.isGenerator = false)
    (TB : TabB X.base X.mg c P) (hcode : X.env.code = .ref c) (hmT : (P, X.env.qual ++ "<lambda>") ∈ T) (hu : ∀ p ∈ T, p.1 = P → p.2 = X.env.qual ++ "<lambda>") (hdef : defaultsOf params X.env = ([], []))
    (hbind : ∀ (q : Str) (body : Expr) (cl : List (Str × Addr)) (pm cv ctv v : Value), bindArgs (PySem.W.kla_fn "<lambda>" q params body scope cl pm cv ctv) ⟨[v], []⟩ = pure [(("number" : Str), v)])
    (hc : X.calm = true := by rfl) (hg1 : Gl X "sorted" := by rfl) (hg2 : Gl X "range" := by rfl) (hg3 : Gl X "len" := by rfl)
    (hs1 : starEach [.Name "stays" p4] X.env = (false, eval (.Name "stays" p4) X.env) :: starEach [] X.env := by rfl)
    (hs2 : starEach [.Call (.Name "len" p3) [.Name "stays" p4] [] p5] X.env = (false, eval (.Call (.Name "len" p3) [.Name "stays" p4] [] p5) X.env) :: starEach [] X.env := by rfl)
    (hs3 : starEach [.Call (.Name "range" p2) [.Call (.Name "len" p3) [.Name "stays" p4] [] p5] [] p6] X.env = (false, eval (.Call (.Name "range" p2) [.Call (.Name "len" p3) [.Name "stays" p4] [] p5] [] p6) X.env) :: starEach [] X.env := by rfl) :
    Ev T X (.Call (.Name "sorted" p) [.Call (.Name "range" p2) [.Call (.Name "len" p3) [.Name "stays" p4] [] p5] [] p6]
      [⟨some "key", .Lambda params (.Tuple [.Subscript (.Subscript (.Name "stays" q1) (.Name "number" q2) q3) (.Constant (.int 1) j q4) q5, .Name "number" q6] k q7) scope lpos, kpos⟩] pos) δ (.d (.list ((inOrder st).map fun (n : Nat) => PyData.int (n : Int)))) := by
  intro S σ H ad Q kont pins s I
  have hvis : Vis X.env.scope "stays" := .inr (.inl hcl)
  have hlen : Ev T X (.Call (.Name "len" p3) [.Name "stays" p4] [] p5) δ (.d (.int ((st.map stayD).length : Int))) := by
    cases bq with
    | false => exact ev_lenT B (ev_n i hi hvis hd) hg3 hs1
    | true => exact ev_lenL B (ev_n i hi hvis hd) hg3 hs1
  refine sortcall (T := T) I (pe_callTy cr_range1 hg2 B.range (by decide +kernel) (pa_cons (pe_best X) pa_nil hs2) (he := hs2)) B TB hcode hmT hu hdef (fun y hy e => ?_) ?_ hg1 hs3
  · rw [hsc] at hy
    have hy' : y = (("number" : Str), NameKind.local) ∨ y = (("stays" : Str), NameKind.free) := by simpa using hy
    rcases hy' with z | z
    · rw [z] at e
      cases e
    · rw [z]
      exact I.ok.has _ (.inl hcl)
  · refine hlen S σ H ad _ fun v1 H1 g1 r1 => ⟨((st.map stayD).length : Int), by rw [Rp.int_inv r1], fun p hp => ?_⟩
    have g2 : Gr T H1 (upd H1 p (.rng 0 ((st.map stayD).length : Int))) := Gr.new hp
    refine ⟨(ad.grow (g1.trans g2)).tab, fun H2 g3 u s2 f c' pm ctv ru I2 hf hcd => ?_⟩
    obtain rfl : u = Value.ref p := ru
    have hp2 : H2 p = some (.rng 0 ((st.map stayD).length : Int)) := g3.1 _ _ upd_same (fun ps z => by cases z)
    obtain ⟨t0, u0, v0, hrg⟩ := I2.hok p _ hp2
    have g13 := (g1.trans g2).trans g3
    obtain ⟨v, hv, rv⟩ := (ad.grow g13).sd.at' i _ hd
    have hyf : (("stays" : Str), NameKind.free) ∈ scope.names := by rw [hsc]; simp
    obtain ⟨cc, uu, ruu, hlk, hcc⟩ := cell_of I2 hi hv hcl hyf
    obtain ⟨as, hrd⟩ := Dp.reads I2 _ v uu (Rp.dp rv) ruu
    have hln : ((st.map stayD).length : Int) = (st.length : Int) := by rw [List.length_map]
    have hl0 : scope.names.lookup ("number" : Str) = some .local := by rw [hsc]; decide +kernel
    have hl1 : scope.names.lookup ("stays" : Str) = some .free := by rw [hsc]; decide +kernel
    refine sorted_key_rng (n := st.length) (ordKey st) (I2.ok.hd hc) hrg hln (by omega) (alike_order st _) (PySem.W.Sortable.tuples fun b => ⟨_, _, rfl⟩) (fun x _ => by
      have := depth_order st x
      have := hr.units
      omega) (fun x t hx h tk kp => ?_) fun h1 out c1 h' tk k1 k2 ho hout => ?_
    · have lim : Heap.NoLimit h := I2.nolimit.keeps kp
      have hcd' : Heap.CodeRec h (.ref c') (X.env.qual ++ "<lambda>") := by
        obtain ⟨c2, o, vs, t, e1, e2, e3, e4⟩ := hcd
        exact ⟨c2, o, vs, t, e1, kp _ _ e2, e3, e4⟩
      have hcc' : Heap.IsCell h cc (some uu) := by
        obtain ⟨o, e1, e2⟩ := hcc
        exact ⟨o, kp _ _ e1, e2⟩
      refine key_order (c := cc) (s := { s2 with heap := h, toks := tk }) (hr.in1).in1.depth (kp _ _ hf) hcd' lim hk hco hgen (hbind _ _ _ _ _ _ _) (fun y hy => ?_) hl0 hl1 hlk hcc' (reads_keep kp hrd) hx hz
      rw [hsc] at hy
      have hy' : y = (("number" : Str), NameKind.local) ∨ y = (("stays" : Str), NameKind.free) := by simpa using hy
      rcases hy' with z | z <;> (rw [z]; decide)
    · have I3 : Inv X pins σ H2 { s2 with heap := h1 } := I2.kept (t' := s2.toks) k1
      have hv := each_vals hout
      have hil : (inOrder st).length = st.length := by unfold inOrder; rw [List.length_mergeSort, List.length_range]
      have hn : H2 h1.objs.size = none := I3.hok.fresh (Nat.le_refl _)
      refine ⟨.ref h1.objs.size, upd H2 h1.objs.size (.lst ((inOrder st).map fun (n : Nat) => V.int (n : Int))), I3.laid (t' := tk) k2 (Nat.le_refl _) ⟨?_, out, c1, hv, ho⟩, rfl, kont _ _ (g13.trans (Gr.new hn)) (Rp.lst (SL.new (ad.grow g13).sok hn) ?_)⟩
      · rw [List.length_map, hil]
        exact small_of (by omega)
      · have e1 : ((inOrder st).map fun (n : Nat) => V.int (n : Int)) = ((inOrder st).map fun (n : Nat) => (n : Int)).map V.int := by rw [List.map_map]; rfl
        have e2 : ((inOrder st).map fun (n : Nat) => PyData.int (n : Int)) = ((inOrder st).map fun (n : Nat) => (n : Int)).map PyData.int := by rw [List.map_map]; rfl
        rw [e1, e2]
        exact RpA.of_ints _
end
end N

namespace N
open PySem L2 LamX
def lotD (l : List Int) : PyData := .tuple (l.map .int)
/-- fewest first, then as tuples compare -/
def sortLots (ls : List (List Int)) : List (List Int) := ls.mergeSort (PySem.W.dataLe false lotKey)
theorem alike_lot (ls : List (List Int)) : PySem.W.AllAlike (ls.map lotKey) := PySem.W.AllAlike.of fun a b => by
  unfold lotKey
  simp [PySem.W.alike, PySem.W.alikeAll, PySem.W.alike_ints]
theorem depth_lot (l : List Int) : (lotKey l).depth ≤ 8 := by
  unfold lotKey
  simp [PyData.depth, PyData.depthAll, PySem.W.depth_ints]
theorem each_of {K : PySem.W.Frag} {S : Addr → Prop} {H : Hp} {h : Heap} : ∀ {vs : List Value} {xs : List V} {ls : List (List Int)}, Vals xs vs → RpA K S H xs (ls.map lotD) → (∀ v u (l : List Int), RelV v u → Rp K S H v (lotD l) → ∃ as, Reads h u (lotD l) as) →
    PySem.W.EachIs (fun u (l : List Int) => ∃ a, u = Value.ref a ∧ Rp K S H (.ref a) (lotD l) ∧ Reads h u (lotD l) []) vs ls
  | _, _, [], .nil, .nil, _ => .nil
  | _, _, l :: ls, .cons r rr, .cons q qq, hr => by
    refine .cons ?_ (each_of rr qq hr)
    obtain ⟨as, rd⟩ := hr _ _ l r q
    have e0 : ∀ {us : List Value} {ns : List Int} {as : List Addr}, ReadsAll h us (ns.map .int) as → as = [] := by
      intro us ns
      induction ns generalizing us with
      | nil => intro as z; cases z; rfl
      | cons n ns ih =>
        intro as z
        cases z with
        | cons z1 z2 =>
          cases z1
          rw [ih z2]
          rfl
    have q0 : Rp K S H _ (.tuple (l.map .int)) := q
    cases q0 with
    | tup hq ha =>
      obtain rfl := r
      refine ⟨_, rfl, q, ?_⟩
      have rd' : Reads h _ (.tuple (l.map .int)) as := rd
      cases rd' with
      | tuple e1 e2 e3 ra =>
        have := e0 ra
        subst this
        exact .tuple e1 e2 e3 ra
theorem each_back {K : PySem.W.Frag} {S : Addr → Prop} {H : Hp} {h : Heap} : ∀ {vs : List Value} {ls : List (List Int)}, PySem.W.EachIs (fun u (l : List Int) => ∃ a, u = Value.ref a ∧ Rp K S H (.ref a) (lotD l) ∧ Reads h u (lotD l) []) vs ls → ∃ xs, Vals xs vs ∧ RpA K S H xs (ls.map lotD)
  | _, _, .nil => ⟨[], .nil, .nil⟩
  | _, _, .cons ⟨a, e, r, _⟩ t => by
    obtain ⟨xs, h1, h2⟩ := each_back t
    subst e
    exact ⟨.ref a :: xs, .cons rfl h1, .cons r h2⟩
section
variable {T : Tbl} {X : Cx} {δ : Sl}
theorem ev_sortLots {ls : List (List Int)} {c P : Addr} {params : Arguments} {scope : Scope} {e : Expr} {p q1 q2 q3 q4 q5 lpos kpos pos : Pos} {k : Nat} (he : Ev T X e δ (.d (.list (ls.map lotD)))) (B : Bn X.mg) (hr : Room 3 X.A) (hz : ls.length ≤ 100000) (hz2 : ∀ l ∈ ls, l.length ≤ 1000)
    (hsc : scope.names = [(("lot" : Str), NameKind.local), (("len" : Str), NameKind.globalImplicit)]) (hk : scope.kind = .function) (hco : scope.isCoroutine = false) (hgen : scope.isGenerator = false)
    (TB : TabB X.base X.mg c P) (hcode : X.env.code = .ref c) (hmT : (P, X.env.qual ++ "<lambda>") ∈ T) (hu : ∀ p ∈ T, p.1 = P → p.2 = X.env.qual ++ "<lambda>") (hdef : defaultsOf params X.env = ([], []))
    (hbind : ∀ (q : Str) (body : Expr) (cl : List (Str × Addr)) (pm cv ctv v : Value), bindArgs (PySem.W.kla_fn "<lambda>" q params body scope cl pm cv ctv) ⟨[v], []⟩ = pure [(("lot" : Str), v)])
    (hc : X.calm = true := by rfl) (hg1 : Gl X "sorted" := by rfl) (hs : starEach [e] X.env = (false, eval e X.env) :: starEach [] X.env := by rfl) :
    Ev T X (.Call (.Name "sorted" p) [e] [⟨some "key", .Lambda params (.Tuple [.Call (.Name "len" q1) [.Name "lot" q2] [] q3, .Name "lot" q4] k q5) scope lpos, kpos⟩] pos) δ (.d (.list ((sortLots ls).map lotD))) := by
  intro S σ H ad Q kont pins s I
  have hnf : ∀ y ∈ scope.names, y.2 = .free → ∃ c, X.env.cells.lookup y.1 = some c := fun y hy e => by
    rw [hsc] at hy
    have hy' : y = (("lot" : Str), NameKind.local) ∨ y = (("len" : Str), NameKind.globalImplicit) := by simpa using hy
    rcases hy' with z | z <;> (rw [z] at e; cases e)
  refine sortcall (T := T) I (pe_best X) B TB hcode hmT hu hdef hnf ?_ hg1 hs
  refine he S σ H ad _ fun v1 H1 g1 r1 => ⟨(ad.grow g1).tab, fun H2 g3 u s2 f c' pm ctv ru I2 hf hcd => ?_⟩
  have g13 := g1.trans g3
  cases r1.grow (e := .d _) g3 with
  | lst hq ha =>
    obtain rfl : u = Value.ref _ := ru
    obtain ⟨its, rv, pl, hzz⟩ := I2.list hq.sq
    have hl1 := ha.length
    have hl2 := rv.length
    rw [List.length_map] at hl1
    have he := each_of (h := s2.heap) rv ha fun v u l r q => Dp.reads I2 _ v u (Rp.dp q) r
    have hl0 : scope.names.lookup ("lot" : Str) = some .local := by rw [hsc]; decide +kernel
    have hlg : scope.names.lookup ("len" : Str) = some .globalImplicit := by rw [hsc]; decide +kernel
    refine PySem.W.sorted_key_data (b := false) lotKey pl.isList he (alike_lot ls) (PySem.W.Sortable.tuples fun b => ⟨_, _, rfl⟩) (small_of (by omega)) (fun x _ => by
      have := depth_lot x
      have := hr.units
      omega) (PyProof.Rows.ksk_s1 _ _) (fun _ => PyProof.Rows.ksk_l1 _ _) (fun _ => PyProof.Rows.ksk_t1 _ _) (fun u x hR hx h tk kp => ?_) fun out c1 h' tk k1 hfr ho hlen hout => ?_
    · obtain ⟨a, e1, e2, e3⟩ := hR
      have lim : Heap.NoLimit h := I2.nolimit.keeps kp
      have hcd' : Heap.CodeRec h (.ref c') (X.env.qual ++ "<lambda>") := by
        obtain ⟨c2, o, vs, t, e1, e2, e3, e4⟩ := hcd
        exact ⟨c2, o, vs, t, e1, kp _ _ e2, e3, e4⟩
      have gm : Heap.Ns h mainGlobals X.mg := (I2.mod.glob.keeps I2.bk).keeps kp
      obtain ⟨mb, m1, m2⟩ := I2.mod.blt
      refine key_lot (s := { s2 with heap := h, toks := tk }) (hr.in1).in1.depth (kp _ _ hf) hcd' lim hk hco hgen (hbind _ _ _ _ _ _ _) (fun y hy => ?_) hl0 hlg B.len gm ⟨mb, (m1.keeps I2.bk).keeps kp, m2⟩ (reads_keep kp e3) (hz2 x hx)
      rw [hsc] at hy
      have hy' : y = (("lot" : Str), NameKind.local) ∨ y = (("len" : Str), NameKind.globalImplicit) := by simpa using hy
      rcases hy' with z | z <;> (rw [z]; decide)
    · obtain ⟨xs, v1, v2⟩ := each_back hout
      have hxl : xs.length = ls.length := by rw [v2.length, List.length_map, List.length_mergeSort]
      have hn : H2 (s2.heap.objs.size + 1) = none := I2.hok.fresh (Nat.le_succ _)
      refine ⟨.ref _, upd H2 (s2.heap.objs.size + 1) (.lst xs), I2.laid (t' := tk) k1 (Nat.le_succ _) ⟨small_of (by omega), out, c1, v1, ho⟩, rfl, kont _ _ (g13.trans (Gr.new hn)) (Rp.lst (SL.new (ad.grow g13).sok hn) (v2.grow (T := T) (Gr.new hn)))⟩
end
end N

namespace N
open PySem L2 LamX
theorem tuple_mul_one (l : Addr) (items : Array Value) (n : Nat) (dd : Option Addr) (sl : Array (Option Value)) (u : Tok) :
    Meets (Builtin.«tuple.__mul__» ⟨[.ref l, .int 1 u], []⟩) (fun _ R s => s.heap.get? l = some { cls := .type "tuple", dict := dd, data := .seq items n, slots := sl } ∧ R (.ok (.ret (Value.ref l))) s) :=
  .of_wp fun prog w A R s h => by
    obtain ⟨hp, g, d, tk, os⟩ := s
    obtain ⟨hl, h⟩ := h
    have f1 := AutoSeq1.idx_int
    wp_walk using wpAny_loadPart' hl
    exact ⟨_, rfl, h⟩
theorem tuple_mul_zero (l : Addr) (items : Array Value) (n : Nat) (dd : Option Addr) (sl : Array (Option Value)) (u : Tok) (hi : items.isEmpty = false) :
    Meets (Builtin.«tuple.__mul__» ⟨[.ref l, .int 0 u], []⟩) (fun _ R s => s.heap.get? l = some { cls := .type "tuple", dict := dd, data := .seq items n, slots := sl } ∧
      R (.ok (.ret (Value.ref s.heap.objs.size))) { s with heap := s.heap.push { cls := Value.type "tuple", data := Data.seq #[] }, toks := s.toks }) :=
  .of_wp fun prog w A R s h => by
    obtain ⟨hp, g, d, tk, os⟩ := s
    obtain ⟨hl, h⟩ := h
    have f1 := AutoSeq1.idx_int
    wp_walk using wpAny_loadPart' hl
    exact ⟨_, rfl, h⟩
section
variable {X : Cx}
/-- (x,) * k, k not below 0 -/
def rRep1 (K : PySem.W.Frag) : R2 := fun x y H Q => ∃ l k v, x = .ref l ∧ y = .int k ∧ SqT K H l [v] ∧ 0 ≤ k ∧ k ≤ 1000 ∧ (k = 1 → Q (.ref l) H) ∧ (k ≠ 1 → ∀ p, H p = none → Q (.ref p) (upd H p (.tup (List.replicate k.toNat v))))
theorem flat_one {α : Type} (n : Nat) (v : α) : (List.replicate n [v]).flatten = List.replicate n v := by
  induction n with
  | zero => rfl
  | succ n ih => rw [List.replicate_succ, List.flatten_cons, ih, List.replicate_succ]; rfl
theorem op_rep1 : OpR X (binaryOp .Mult) (rRep1 X.K) := by
  intro pins s σ H x y v u Q I rx ry h
  obtain ⟨l, k, z, rfl, rfl, hT, h1, h2, q1, q2⟩ := h
  by_cases hk2 : 2 ≤ k
  · exact op_repT pins s σ H _ _ v u Q I rx ry ⟨l, k, [z], rfl, rfl, hT, by simp, hk2, h2, by simp, fun p hp => by
      rw [flat_one]
      exact q2 (by omega) p hp⟩
  · cases rx
    obtain ⟨t, rfl⟩ := ry
    obtain ⟨its, r, ⟨⟨cls, dd, data, sl⟩, ho, hc, n, hd⟩, hs⟩ := I.tuple hT
    simp only at hc hd
    subst hc hd
    have hi : its.toArray.isEmpty = false := by
      cases r
      rfl
    refine wpAny_binaryOp_repeat_ref (T := "tuple") (U := "int") (by decide) ⟨_, ho, rfl⟩ (fun s' => typeIs_int s' k t) L2.noFill_tuple_mul F.fills_int_mul F.slot_int_rmul L2.repeat_tuple F.slot_int_index.lookup
      (call_meets F.slot_int_rmul (typeIs_int s k t) F.entry_int_rmul (F.args_int_rmul_2 _ _) (L2.int_rmul_tuple k t l its.toArray n dd sl) ⟨ho, rfl, ⟨_, ho, rfl⟩, ?_⟩)
    by_cases hk1 : k = 1
    · subst hk1
      exact call_meets F.slot_tuple_mul ⟨_, ho, rfl⟩ F.entry_tuple_mul (F.args_tuple_mul_2 _ _) (tuple_mul_one l its.toArray n dd sl t) ⟨ho, .ref l, H, I, rfl, q1 rfl⟩
    · have hk0 : k = 0 := by omega
      subst hk0
      refine call_meets F.slot_tuple_mul ⟨_, ho, rfl⟩ F.entry_tuple_mul (F.args_tuple_mul_2 _ _) (tuple_mul_zero l its.toArray n dd sl t hi) ⟨ho, ?_⟩
      refine ⟨.ref s.heap.objs.size, _, I.laid (t' := s.toks) (o := .tup []) (fun b ob q => Heap.get?_push_of_some _ q) (Nat.le_refl _) ?_, rfl, q2 (by decide) _ (I.hok.fresh (Nat.le_refl _))⟩
      exact ⟨Nat.zero_le _, [], .nil, PyProof.Rows.IsTup.new _ _⟩
end
theorem rpa_rep {K : PySem.W.Frag} {S : Addr → Prop} {H : Hp} {v : V} {d : PyData} (h : Rp K S H v d) : ∀ n : Nat, RpA K S H (List.replicate n v) (List.replicate n d)
  | 0 => .nil
  | n + 1 => .cons h (rpa_rep h n)
section
variable {T : Tbl} {X : Cx} {δ : Sl} {a b : Expr} {d : PyData} {k : Int} {pos : Pos}
theorem ev_rep1 (h1 : Ev T X a δ (.d (.tuple [d]))) (h2 : Ev T X b δ (.d (.int k))) (hk : 0 ≤ k ∧ k ≤ 1000) : Ev T X (.BinOp a .Mult b pos) δ (.d (.tuple (List.replicate k.toNat d))) :=
  ev_op op_rep1 h1 h2 fun S H v w sk _ r1 r2 Q kont => by
    cases r1 with
    | tup hq ha => cases ha with
      | cons hv hn =>
        cases hn
        refine ⟨_, k, _, rfl, Rp.int_inv r2, hq, hk.1, hk.2, fun e => ?_, fun _ p hp => kont _ _ (Gr.new hp) (Rp.tup (SqT.of upd_same) (rpa_rep (hv.grow (T := T) (Gr.new hp)) _))⟩
        subst e
        exact kont _ H (Gr.refl H) (Rp.tup hq (.cons hv .nil))
end
end N

/-! zip(.., .., strict=True) over any two iterators -/
namespace Z
open PySem
section
variable {prog : Program} {w : World} {A : Around} {E : Value → Shared → Prop} {s : Shared} {it : Addr} {fp : List Addr} {n i : Nat} {P : Nat → Value → Prop} {St : Nat → Heap → Prop}
theorem noe_item (D : Draws prog w A it fp n P St) {Q : Option Value → Shared → Prop} (hi : i < n) (st : St i s.heap) (h : ∀ x h' tk, P i x → St (i + 1) h' → Heap.SameBut it s.heap h' → Q (some x) { s with heap := h', toks := tk }) :
    wpAny (model prog w) A (Builtin.SmallTypes.nextOrEnd (.ref it)) Q E s := by
  unfold Builtin.SmallTypes.nextOrEnd
  exact wpAny_bind (wpAny_attempt (D.item i s _ _ hi st fun x h' tk a b c => wpAny_pure (h x h' tk a b c)))
theorem noe_done (D : Draws prog w A it fp n P St) {Q : Option Value → Shared → Prop} (st : St n s.heap) (h : ∀ h', Heap.ExtBut it s.heap h' → Q none { s with heap := h' }) :
    wpAny (model prog w) A (Builtin.SmallTypes.nextOrEnd (.ref it)) Q E s := by
  unfold Builtin.SmallTypes.nextOrEnd
  refine wpAny_bind (wpAny_attempt (D.done s _ _ st fun h' e hx he => ?_))
  obtain ⟨o, ho, hc⟩ := he
  refine wpAny_bind (wpAny_isInstance (T := "StopIteration") (b := true) ⟨o, ho, hc⟩ isSubtype_stop ?_)
  exact wpAny_pure (h h' hx)
end
/-- a strict zip's record -/
abbrev ZS (h : Heap) (z TI TO : Addr) (f0 : Value) (f1 : Bool) : Prop := h.get? z = some { cls := .type "zip", dict := none, data := .fields #[f0, .bool f1, .bool true, .ref TI, .ref TO], slots := #[] }
section
variable {prog : Program} {w : World} {A : Around} {E : Value → Shared → Prop} {s : Shared} {z TI TO i1 i2 : Addr} {fp1 fp2 : List Addr} {n i : Nat} {P1 P2 : Nat → Value → Prop} {St1 St2 : Nat → Heap → Prop} {a1 a2 : Value}
/-- the next pair, its own tuple free -/
theorem zs_item {f1 : Bool} {Q : Value → Shared → Prop} (S : ZipSep2 z TI TO i1 i2 fp1 fp2) (D1 : Draws prog w A i1 fp1 n P1 St1) (D2 : Draws prog w A i2 fp2 n P2 St2)
    (hz : ZS s.heap z TI TO .none f1) (hTI : IsTupOf2 s.heap TI (.ref i1) (.ref i2)) (hTO : IsTupOf2 s.heap TO a1 a2) (st1 : St1 i s.heap) (st2 : St2 i s.heap) (hlt : i < n)
    (hQ : ∀ x1 x2 h' tk, P1 i x1 → P2 i x2 → ZS h' z TI TO (rawInt s.heap.objs.size) false → IsTupOf2 h' TO x1 x2 → St1 (i + 1) h' → St2 (i + 1) h' → IsTupOf2 h' s.heap.objs.size x1 x2 → h'.objs.size = s.heap.objs.size + 1 →
      (∀ c o, c ≠ z → c ≠ TO → c ≠ i1 → c ≠ i2 → s.heap.get? c = some o → h'.get? c = some o) → Q (.ref s.heap.objs.size) { s with heap := h', toks := tk }) :
    wpAny (model prog w) A (Builtin.«zip.__next__» ⟨[.ref z], []⟩) (fun fin s' => ∃ v, fin = .done (.ret v) ∧ Q v s') E s := by
  obtain ⟨h0, gg, dd, tk0, os⟩ := s
  show wpAny _ _ (field (.ref z) 2 >>= _) _ _ _
  refine wpAny_bind (wpAny_field hz rfl (x := .bool true) rfl ?_)
  show wpAny _ _ (field (.ref z) 3 >>= _) _ _ _
  refine wpAny_bind (wpAny_field hz rfl (x := .ref TI) rfl (wpAny_bind (wpAny_seqItems hTI rfl ?_)))
  show wpAny _ _ (Builtin.SmallTypes.ownedTupleIsFree (.ref z) >>= _) _ _ _
  refine wpAny_bind ?_
  unfold Builtin.SmallTypes.ownedTupleIsFree
  refine wpAny_bind (wpAny_field hz rfl (x := .none) rfl (wpAny_pure ?_))
  simp only [if_true]
  refine wpAny_bind (wpAny_rule (wpAny_bind (wpAny_field hz rfl (x := .ref TO) rfl (wpAny_bind (wpAny_setField_rec hz (by simp) fun k0 y0 b0 => ?_)))))
  replace y0 : ZS k0 z TI TO .ellipsis f1 := y0
  replace b0 : Heap.SameBut z h0 k0 := b0
  refine wpAny_bind ?_
  simp only [List.zipIdx_cons, List.zipIdx_nil, List.forIn_cons, List.forIn_nil]
  refine wpAny_bind (wpAny_bind (wpAny_onRaise ?_))
  show wpAny _ _ (Builtin.SmallTypes.nextOrEnd (.ref i1)) _ _ ⟨k0, gg, dd, tk0, os⟩
  refine noe_item D1 hlt (D1.over st1 b0 S.zf1) fun x1 k1 t1 p1 u1 b1 => ?_
  replace b1 : Heap.SameBut i1 k0 k1 := b1
  have w1 : IsTupOf2 k1 TO a1 a2 := b1.extBut _ _ S.Ti1 (b0.extBut _ _ S.TOz hTO)
  refine wpAny_bind (wpAny_seqItems (s := ⟨k1, gg, dd, t1, os⟩) w1 rfl (wpAny_bind (updateSeq_IsTupOf2 (s := ⟨k1, gg, dd, t1, os⟩) w1 fun k2 w2 b2 => ?_)))
  replace w2 : IsTupOf2 k2 TO x1 a2 := w2
  replace b2 : Heap.SameBut TO k1 k2 := b2
  refine wpAny_bind (wpAny_letGo (wpAny_pure (wpAny_bind (wpAny_bind (wpAny_onRaise ?_)))))
  show wpAny _ _ (Builtin.SmallTypes.nextOrEnd (.ref i2)) _ _ ⟨k2, gg, dd, t1, os⟩
  refine noe_item D2 hlt (D2.over (D2.over (D2.over st2 b0 S.zf2) b1 S.sep1_2) b2 S.Tf2) fun x2 k3 t2 p2 u2 b3 => ?_
  replace b3 : Heap.SameBut i2 k2 k3 := b3
  have w3 : IsTupOf2 k3 TO x1 a2 := b3.extBut _ _ S.Ti2 w2
  refine wpAny_bind (wpAny_seqItems (s := ⟨k3, gg, dd, t2, os⟩) w3 rfl (wpAny_bind (updateSeq_IsTupOf2 (s := ⟨k3, gg, dd, t2, os⟩) w3 fun k4 w4 b4 => ?_)))
  replace w4 : IsTupOf2 k4 TO x1 x2 := w4
  replace b4 : Heap.SameBut TO k3 k4 := b4
  refine wpAny_bind (wpAny_letGo (wpAny_pure (wpAny_pure (wpAny_bind (wpAny_seqItems (s := ⟨k4, gg, dd, t2, os⟩) w4 rfl (wpAny_bind (wpAny_newTuple ?_)))))))
  have e1 : k4.objs.size = h0.objs.size := by rw [b4.1, b3.1, b2.1, b1.1, b0.1]
  have y4 : ZS k4 z TI TO .ellipsis f1 := b4.extBut _ _ S.TOz.symm (b3.extBut _ _ S.zi2 (b2.extBut _ _ S.TOz.symm (b1.extBut _ _ S.zi1 y0)))
  have kk : ∀ c o, c ≠ z → c ≠ TO → c ≠ i1 → c ≠ i2 → h0.get? c = some o → k4.get? c = some o := fun c o cz cT c1 c2 e =>
    b4.extBut _ _ cT (b3.extBut _ _ c2 (b2.extBut _ _ cT (b1.extBut _ _ c1 (b0.extBut _ _ cz e))))
  have v1 : St1 (i + 1) k4 := D1.over (D1.over (D1.over u1 b2 S.Tf1) b3 S.sep2_1) b4 S.Tf1
  have v2 : St2 (i + 1) k4 := D2.over u2 b4 S.Tf2
  have lz : z < k4.objs.size := Heap.lt_size y4
  show wpAny _ _ (Builtin.SmallTypes.ownedTupleHandOut (.ref z) (.ref k4.objs.size) >>= _) _ _ ⟨k4.push { cls := .type "tuple", data := .seq #[x1, x2] }, gg, dd, t2, os⟩
  refine wpAny_bind ?_
  unfold Builtin.SmallTypes.ownedTupleHandOut
  have y5 : ZS (k4.push { cls := .type "tuple", data := .seq #[x1, x2] }) z TI TO .ellipsis f1 := Heap.get?_push_of_some _ y4
  refine wpAny_bind (wpAny_setField_rec y5 (by simp) fun k6 y6 b6 => ?_)
  replace y6 : ZS k6 z TI TO (rawInt k4.objs.size) f1 := y6
  refine wpAny_setField_rec y6 (by simp) fun k7 y7 b7 => ?_
  replace y7 : ZS k7 z TI TO (rawInt k4.objs.size) false := y7
  replace b6 : Heap.SameBut z (k4.push { cls := .type "tuple", data := .seq #[x1, x2] }) k6 := b6
  replace b7 : Heap.SameBut z k6 k7 := b7
  have up : ∀ c o, c ≠ z → k4.get? c = some o → k7.get? c = some o := fun c o c1 e => b7.extBut _ _ c1 (b6.extBut _ _ c1 (Heap.get?_push_of_some _ e))
  have y8 : IsTupOf2 k7 k4.objs.size x1 x2 := b7.extBut _ _ (Nat.ne_of_gt lz) (b6.extBut _ _ (Nat.ne_of_gt lz) (Heap.get?_push_size _ rfl))
  have y9 : k7.objs.size = k4.objs.size + 1 := by rw [b7.1, b6.1, Heap.size_push]
  rw [e1] at y7 y8 y9
  refine wpAny_pure ⟨_, rfl, ?_⟩
  show Q (.ref k4.objs.size) ⟨k7, gg, dd, t2, os⟩
  rw [e1]
  exact hQ x1 x2 k7 t2 p1 p2 y7 (up _ _ S.TOz w4) (D1.frame _ _ _ v1 fun b hb o e => up b o (fun q => S.zf1 (q ▸ hb)) e) (D2.frame _ _ _ v2 fun b hb o e => up b o (fun q => S.zf2 (q ▸ hb)) e) y8 y9 fun c o cz cT c1 c2 e => up c o cz (kk c o cz cT c1 c2 e)
end
end Z

namespace Z
open PySem
section
variable {prog : Program} {w : World} {A : Around} {E : Value → Shared → Prop} {s : Shared} {z TI TO i1 i2 : Addr} {fp1 fp2 : List Addr} {n i : Nat} {P1 P2 : Nat → Value → Prop} {St1 St2 : Nat → Heap → Prop} {a1 a2 : Value}
/-- its tuple is still out -/
theorem zs_held {T : Addr} {f1 : Bool} {oT : Obj} {Q : Bool → Shared → Prop} (hz : ZS s.heap z TI TO (rawInt T) f1) (hT : s.heap.get? T = some oT)
    (h : ∀ h', ZS h' z TI TO (rawInt T) true → Heap.SameBut z s.heap h' → Q false { s with heap := h' }) : wpAny (model prog w) A (Builtin.SmallTypes.ownedTupleIsFree (.ref z)) Q E s := by
  unfold Builtin.SmallTypes.ownedTupleIsFree
  refine wpAny_bind (wpAny_field hz rfl (x := rawInt T) rfl ?_)
  show wpAny _ _ (loadIfAlive ((T : Int).toNat) >>= _) _ _ _
  rw [Int.toNat_natCast]
  refine wpAny_bind (PySem.W.kdx_alive hT ?_)
  simp only [Option.isNone_some, Bool.false_eq_true, if_false]
  refine wpAny_bind (wpAny_field hz rfl (x := .bool f1) rfl ?_)
  cases f1 with
  | true =>
    rw [if_neg (show ¬ ((Value.bool true != Value.bool true) = true) from Bool.false_ne_true)]
    exact wpAny_pure (h s.heap hz (Heap.SameBut.refl _ _))
  | false =>
    rw [if_pos (show (Value.bool false != Value.bool true) = true from rfl)]
    exact wpAny_bind (wpAny_setField_rec hz (by simp) fun k y b => wpAny_pure (h k y b))
/-- the next pair, the first one still held -/
theorem zs_item2 {T : Addr} {f1 : Bool} {oT : Obj} {Q : Value → Shared → Prop} (S : ZipSep2 z TI TO i1 i2 fp1 fp2) (D1 : Draws prog w A i1 fp1 n P1 St1) (D2 : Draws prog w A i2 fp2 n P2 St2)
    (hz : ZS s.heap z TI TO (rawInt T) f1) (hT : s.heap.get? T = some oT) (hTI : IsTupOf2 s.heap TI (.ref i1) (.ref i2)) (st1 : St1 i s.heap) (st2 : St2 i s.heap) (hlt : i < n)
    (hQ : ∀ x1 x2 h' tk, P1 i x1 → P2 i x2 → ZS h' z TI TO (rawInt T) true → St1 (i + 1) h' → St2 (i + 1) h' → IsTupOf2 h' s.heap.objs.size x1 x2 → h'.objs.size = s.heap.objs.size + 1 →
      (∀ c o, c ≠ z → c ≠ i1 → c ≠ i2 → s.heap.get? c = some o → h'.get? c = some o) → Q (.ref s.heap.objs.size) { s with heap := h', toks := tk }) :
    wpAny (model prog w) A (Builtin.«zip.__next__» ⟨[.ref z], []⟩) (fun fin s' => ∃ v, fin = .done (.ret v) ∧ Q v s') E s := by
  obtain ⟨h0, gg, dd, tk0, os⟩ := s
  show wpAny _ _ (field (.ref z) 2 >>= _) _ _ _
  refine wpAny_bind (wpAny_field hz rfl (x := .bool true) rfl ?_)
  show wpAny _ _ (field (.ref z) 3 >>= _) _ _ _
  refine wpAny_bind (wpAny_field hz rfl (x := .ref TI) rfl (wpAny_bind (wpAny_seqItems hTI rfl ?_)))
  show wpAny _ _ (Builtin.SmallTypes.ownedTupleIsFree (.ref z) >>= _) _ _ _
  refine wpAny_bind (zs_held hz hT fun k0 y0 b0 => ?_)
  replace b0 : Heap.SameBut z h0 k0 := b0
  simp only [Bool.false_eq_true, if_false]
  refine wpAny_bind ?_
  show wpAny _ _ (forIn #[Value.ref i1, Value.ref i2] _ _) _ _ ⟨k0, gg, dd, tk0, os⟩
  rw [← Array.forIn_toList]
  simp only [List.forIn_cons, List.forIn_nil]
  refine wpAny_bind (wpAny_bind (wpAny_holding ?_))
  show wpAny _ _ (Builtin.SmallTypes.nextOrEnd (.ref i1)) _ _ ⟨k0, gg, dd, tk0, os⟩
  refine noe_item D1 hlt (D1.over st1 b0 S.zf1) fun x1 k1 t1 p1 u1 b1 => ?_
  replace b1 : Heap.SameBut i1 k0 k1 := b1
  refine wpAny_pure (wpAny_bind (wpAny_bind (wpAny_holding ?_)))
  show wpAny _ _ (Builtin.SmallTypes.nextOrEnd (.ref i2)) _ _ ⟨k1, gg, dd, t1, os⟩
  refine noe_item D2 hlt (D2.over (D2.over st2 b0 S.zf2) b1 S.sep1_2) fun x2 k3 t2 p2 u2 b3 => ?_
  replace b3 : Heap.SameBut i2 k1 k3 := b3
  refine wpAny_pure (wpAny_pure (wpAny_bind (wpAny_newTuple ?_ (show 2 ≤ sizeLine by decide))))
  have e1 : k3.objs.size = h0.objs.size := by rw [b3.1, b1.1, b0.1]
  have y3 : ZS k3 z TI TO (rawInt T) true := b3.extBut _ _ S.zi2 (b1.extBut _ _ S.zi1 y0)
  have up : ∀ c o, k3.get? c = some o → (k3.push { cls := .type "tuple", data := .seq #[x1, x2] }).get? c = some o := fun c o e => Heap.get?_push_of_some _ e
  refine wpAny_pure ⟨_, rfl, ?_⟩
  show Q (.ref k3.objs.size) ⟨k3.push { cls := .type "tuple", data := .seq #[x1, x2] }, gg, dd, t2, os⟩
  rw [e1]
  refine hQ x1 x2 _ t2 p1 p2 (up _ _ y3) (D1.frame _ _ _ (D1.over u1 b3 S.sep2_1) fun b _ o e => up b o e) (D2.frame _ _ _ u2 fun b _ o e => up b o e) ?_ (by rw [Heap.size_push, e1]) fun c o cz c1 c2 e => up c o (b3.extBut _ _ c2 (b1.extBut _ _ c1 (b0.extBut _ _ cz e)))
  show (k3.push { cls := .type "tuple", data := .seq #[x1, x2] }).get? h0.objs.size = _
  rw [← e1]
  exact Heap.get?_push_size _ rfl
theorem stop_it {α : Type} {Q : α → Shared → Prop} (hh : A.handled = none) (hE : ∀ h' e, (∀ b o, s.heap.get? b = some o → h'.get? b = some o) → (∃ o, h'.get? e = some o ∧ o.cls = .type "StopIteration") → E (.ref e) { s with heap := h' }) :
    wpAny (model prog w) A (Builtin.SmallTypes.stopIteration : Sem α) Q E s := by
  unfold Builtin.SmallTypes.stopIteration
  refine wpAny_bind ?_
  simp only [newExc, newTuple]
  refine wpAny_bind (wpAny_newObj_type ?_ (by size_fits))
  refine wpAny_bind (m := firstArgMember _ _) (wpAny_of_eq (a := Value.none) (by first | rfl | (simp only [firstArgMember]; rfl)) ?_)
  refine wpAny_newObj_type ?_ (by size_fits)
  simp only [raiseNew]
  refine wpAny_bind (wpAny_handled ?_)
  rw [hh]
  refine wpAny_bind (wpAny_pure (wpAny_throw ?_))
  exact hE _ _ (fun b o e => Heap.get?_push_of_some _ (Heap.get?_push_of_some _ e)) ⟨_, Heap.get?_push_size _ rfl, rfl⟩
/-- no pair more, its tuple free -/
theorem zs_end {f1 : Bool} {Q : Fin → Shared → Prop} (hh : A.handled = none) (S : ZipSep2 z TI TO i1 i2 fp1 fp2) (D1 : Draws prog w A i1 fp1 n P1 St1) (D2 : Draws prog w A i2 fp2 n P2 St2)
    (hz : ZS s.heap z TI TO .none f1) (hTI : IsTupOf2 s.heap TI (.ref i1) (.ref i2)) (hTO : IsTupOf2 s.heap TO a1 a2) (st1 : St1 n s.heap) (st2 : St2 n s.heap)
    (hE : ∀ h' e, (∀ c o, c ≠ z → c ≠ i1 → c ≠ i2 → s.heap.get? c = some o → h'.get? c = some o) → (∃ o, h'.get? e = some o ∧ o.cls = .type "StopIteration") → E (.ref e) { s with heap := h' }) :
    wpAny (model prog w) A (Builtin.«zip.__next__» ⟨[.ref z], []⟩) Q E s := by
  obtain ⟨h0, gg, dd, tk0, os⟩ := s
  show wpAny _ _ (field (.ref z) 2 >>= _) _ _ _
  refine wpAny_bind (wpAny_field hz rfl (x := .bool true) rfl ?_)
  show wpAny _ _ (field (.ref z) 3 >>= _) _ _ _
  refine wpAny_bind (wpAny_field hz rfl (x := .ref TI) rfl (wpAny_bind (wpAny_seqItems hTI rfl ?_)))
  show wpAny _ _ (Builtin.SmallTypes.ownedTupleIsFree (.ref z) >>= _) _ _ _
  refine wpAny_bind ?_
  unfold Builtin.SmallTypes.ownedTupleIsFree
  refine wpAny_bind (wpAny_field hz rfl (x := .none) rfl (wpAny_pure ?_))
  simp only [if_true]
  refine wpAny_bind (wpAny_rule (wpAny_bind (wpAny_field hz rfl (x := .ref TO) rfl (wpAny_bind (wpAny_setField_rec hz (by simp) fun k0 y0 b0 => ?_)))))
  replace y0 : ZS k0 z TI TO .ellipsis f1 := y0
  replace b0 : Heap.SameBut z h0 k0 := b0
  refine wpAny_bind ?_
  simp only [List.zipIdx_cons, List.zipIdx_nil, List.forIn_cons, List.forIn_nil]
  refine wpAny_bind (wpAny_bind (wpAny_onRaise ?_))
  show wpAny _ _ (Builtin.SmallTypes.nextOrEnd (.ref i1)) _ _ ⟨k0, gg, dd, tk0, os⟩
  refine noe_done D1 (D1.over st1 b0 S.zf1) fun k1 b1 => ?_
  replace b1 : Heap.ExtBut i1 k0 k1 := b1
  have y1 : ZS k1 z TI TO .ellipsis f1 := b1 _ _ S.zi1 y0
  refine wpAny_bind (wpAny_setField_rec (s := ⟨k1, gg, dd, tk0, os⟩) y1 (by simp) fun k2 y2 b2 => ?_)
  replace b2 : Heap.SameBut z k1 k2 := b2
  refine wpAny_bind ?_
  show wpAny _ _ (((Builtin.SmallTypes.nextOrEnd (.ref i2) >>= _) >>= _) >>= _) _ _ _
  have v2 : St2 n k2 := D2.over (D2.frame _ _ _ (D2.over st2 b0 S.zf2) fun b hb o e => b1 b o (fun q => S.sep1_2 (q ▸ hb)) e) b2 S.zf2
  refine wpAny_bind (wpAny_bind (wpAny_bind (noe_done D2 v2 fun k3 b3 => ?_)))
  replace b3 : Heap.ExtBut i2 k2 k3 := b3
  refine wpAny_pure (wpAny_pure ?_)
  show wpAny _ _ (rule "zip.__next__.all-ended" >>= fun _ => Builtin.SmallTypes.stopIteration) _ _ _
  refine wpAny_bind (wpAny_rule (stop_it hh fun k4 e b4 he => ?_))
  replace b4 : ∀ b o, k3.get? b = some o → k4.get? b = some o := b4
  exact hE k4 e (fun c o cz c1 c2 x => b4 _ _ (b3 _ _ c2 (b2.extBut _ _ cz (b1 _ _ c1 (b0.extBut _ _ cz x))))) he
/-- no pair more, the first one still held -/
theorem zs_end2 {T : Addr} {f1 : Bool} {oT : Obj} {Q : Fin → Shared → Prop} (hh : A.handled = none) (S : ZipSep2 z TI TO i1 i2 fp1 fp2) (D1 : Draws prog w A i1 fp1 n P1 St1) (D2 : Draws prog w A i2 fp2 n P2 St2)
    (hz : ZS s.heap z TI TO (rawInt T) f1) (hT : s.heap.get? T = some oT) (hTI : IsTupOf2 s.heap TI (.ref i1) (.ref i2)) (st1 : St1 n s.heap) (st2 : St2 n s.heap)
    (hE : ∀ h' e, (∀ c o, c ≠ z → c ≠ i1 → c ≠ i2 → s.heap.get? c = some o → h'.get? c = some o) → (∃ o, h'.get? e = some o ∧ o.cls = .type "StopIteration") → E (.ref e) { s with heap := h' }) :
    wpAny (model prog w) A (Builtin.«zip.__next__» ⟨[.ref z], []⟩) Q E s := by
  obtain ⟨h0, gg, dd, tk0, os⟩ := s
  show wpAny _ _ (field (.ref z) 2 >>= _) _ _ _
  refine wpAny_bind (wpAny_field hz rfl (x := .bool true) rfl ?_)
  show wpAny _ _ (field (.ref z) 3 >>= _) _ _ _
  refine wpAny_bind (wpAny_field hz rfl (x := .ref TI) rfl (wpAny_bind (wpAny_seqItems hTI rfl ?_)))
  show wpAny _ _ (Builtin.SmallTypes.ownedTupleIsFree (.ref z) >>= _) _ _ _
  refine wpAny_bind (zs_held hz hT fun k0 y0 b0 => ?_)
  replace b0 : Heap.SameBut z h0 k0 := b0
  simp only [Bool.false_eq_true, if_false]
  refine wpAny_bind ?_
  show wpAny _ _ (forIn #[Value.ref i1, Value.ref i2] _ _) _ _ ⟨k0, gg, dd, tk0, os⟩
  rw [← Array.forIn_toList]
  simp only [List.forIn_cons, List.forIn_nil]
  refine wpAny_bind (wpAny_bind (wpAny_holding ?_))
  show wpAny _ _ (Builtin.SmallTypes.nextOrEnd (.ref i1)) _ _ ⟨k0, gg, dd, tk0, os⟩
  refine noe_done D1 (D1.over st1 b0 S.zf1) fun k1 b1 => ?_
  replace b1 : Heap.ExtBut i1 k0 k1 := b1
  refine wpAny_bind ?_
  show wpAny _ _ (((Builtin.SmallTypes.nextOrEnd (.ref i2) >>= _) >>= _) >>= _) _ _ _
  have v2 : St2 n k1 := D2.frame _ _ _ (D2.over st2 b0 S.zf2) fun b hb o e => b1 b o (fun q => S.sep1_2 (q ▸ hb)) e
  refine wpAny_bind (wpAny_bind (wpAny_bind (noe_done D2 v2 fun k3 b3 => ?_)))
  replace b3 : Heap.ExtBut i2 k1 k3 := b3
  refine wpAny_pure (wpAny_pure ?_)
  show wpAny _ _ (rule "zip.__next__.all-ended" >>= fun _ => Builtin.SmallTypes.stopIteration) _ _ _
  refine wpAny_bind (wpAny_rule (stop_it hh fun k4 e b4 he => ?_))
  replace b4 : ∀ b o, k3.get? b = some o → k4.get? b = some o := b4
  exact hE k4 e (fun c o cz c1 c2 x => b4 _ _ (b3 _ _ c2 (b1 _ _ c1 (b0.extBut _ _ cz x)))) he
end
end Z

namespace Z
open PySem
theorem tc_strict (a b v : Value) : checkTypeCall "zip" ⟨[a, b], [(Str.ofString "strict", v)]⟩ = pure () := by kernel_rfl
theorem nc_strict (a b v : Value) : checkBuiltinCall "zip.__new__" ⟨[.type "zip", a, b], [(Str.ofString "strict", v)]⟩ = pure () := by kernel_rfl
theorem oi_strict (obj a b v : Value) : argsOk "object.__init__" ⟨[obj, a, b], [(Str.ofString "strict", v)]⟩ := by unfold argsOk; kernel_rfl
abbrev H1 (h : Heap) (o1 : Obj) : Heap := h.push o1
abbrev H2 (h : Heap) (o1 o2 : Obj) : Heap := (H1 h o1).push o2
abbrev H3 (h : Heap) (o1 o2 : Obj) : Heap := (H2 h o1 o2).push { cls := .type "tuple", data := .seq #[.ref h.objs.size, .ref (H1 h o1).objs.size] }
abbrev H4 (h : Heap) (o1 o2 : Obj) : Heap := (H3 h o1 o2).push { cls := .type "tuple", data := .seq #[.none, .none] }
abbrev H5 (h : Heap) (o1 o2 : Obj) : Heap := (H4 h o1 o2).push { cls := .type "zip", data := .fields #[.none, .bool false, .bool true, .ref (H2 h o1 o2).objs.size, .ref (H3 h o1 o2).objs.size] }
theorem meets_zs {v1 v2 : Value} {o1 o2 : Obj} {G1 G2 : Heap → Prop} (B1 : Begins v1 o1 G1) (B2 : Begins v2 o2 G2) :
    Meets (Builtin.«zip.__new__» ⟨[.type "zip", v1, v2], [(Str.ofString "strict", .bool true)]⟩) (fun _ R s => G1 s.heap ∧ G2 s.heap ∧
      R (.ok (.ret (.ref (H4 s.heap o1 o2).objs.size))) { s with heap := H5 s.heap o1 o2 }) :=
  .of_wp fun prog w A R s h => by
    obtain ⟨hp, g, d, tk, os⟩ := s
    obtain ⟨h1, h2, h⟩ := h
    have hsub := sub_zip
    have e2 : (Str.ofString "strict" != ("strict" : Str)) = false := by decide +kernel
    have q1 : ∀ {A' : Around} {E : Value → Shared → Prop} {Q : Value → Shared → Prop}, Q (.ref hp.objs.size) ⟨hp.push o1, g, d, tk, os⟩ → wpAny (model prog w) A' (pyIter v1) Q E ⟨hp, g, d, tk, os⟩ :=
      fun q => B1.iter prog w _ _ ⟨hp, g, d, tk, os⟩ _ h1 q
    have q2 : ∀ {A' : Around} {E : Value → Shared → Prop} {Q : Value → Shared → Prop}, Q (.ref (hp.push o1).objs.size) ⟨(hp.push o1).push o2, g, d, tk, os⟩ → wpAny (model prog w) A' (pyIter v2) Q E ⟨hp.push o1, g, d, tk, os⟩ :=
      fun q => B2.iter prog w _ _ ⟨hp.push o1, g, d, tk, os⟩ _ (B2.keeps hp _ h2 fun b o' e => Heap.get?_push_of_some _ e) q
    wp_walk using q1, q2
    exact ⟨_, rfl, h⟩
section
variable {prog : Program} {w : World} {A : Around} {E : Value → Shared → Prop} {s : Shared}
/-- zip(v1, v2, strict=True): its five new cells -/
theorem call_zs {v1 v2 : Value} {o1 o2 : Obj} {G1 G2 : Heap → Prop} {Q : Value → Shared → Prop} (B1 : Begins v1 o1 G1) (B2 : Begins v2 o2 G2) (h1 : G1 s.heap) (h2 : G2 s.heap)
    (h : ∀ h', ZS h' (s.heap.objs.size + 4) (s.heap.objs.size + 2) (s.heap.objs.size + 3) .none false → IsTupOf2 h' (s.heap.objs.size + 2) (.ref s.heap.objs.size) (.ref (s.heap.objs.size + 1)) → IsTupOf2 h' (s.heap.objs.size + 3) .none .none →
      h'.get? s.heap.objs.size = some o1 → h'.get? (s.heap.objs.size + 1) = some o2 → h'.objs.size = s.heap.objs.size + 5 → (∀ c o, s.heap.get? c = some o → h'.get? c = some o) → Q (.ref (s.heap.objs.size + 4)) { s with heap := h' }) :
    wpAny (model prog w) A (call (.type "zip") [v1, v2] [(Str.ofString "strict", .bool true)]) Q E s := by
  refine callType_newKw F.called_zip (by decide) (tc_strict _ _ _) (nc_strict _ _ _) (fun obj => oi_strict obj _ _ _) F.entry_zip_new (meets_zs B1 B2) ⟨h1, h2, ?_⟩
  have z1 : (H1 s.heap o1).objs.size = s.heap.objs.size + 1 := Heap.size_push ..
  have z2 : (H2 s.heap o1 o2).objs.size = s.heap.objs.size + 2 := by rw [Heap.size_push, z1]
  have z3 : (H3 s.heap o1 o2).objs.size = s.heap.objs.size + 3 := by rw [Heap.size_push, z2]
  have z4 : (H4 s.heap o1 o2).objs.size = s.heap.objs.size + 4 := by rw [Heap.size_push, z3]
  have z5 : (H5 s.heap o1 o2).objs.size = s.heap.objs.size + 5 := by rw [Heap.size_push, z4]
  have g5 : (H5 s.heap o1 o2).get? (H4 s.heap o1 o2).objs.size = some _ := Heap.get?_push_size _ rfl
  have g4 : (H5 s.heap o1 o2).get? (H3 s.heap o1 o2).objs.size = some _ := Heap.get?_push_of_some _ (Heap.get?_push_size _ rfl)
  have g3 : (H5 s.heap o1 o2).get? (H2 s.heap o1 o2).objs.size = some _ := Heap.get?_push_of_some _ (Heap.get?_push_of_some _ (Heap.get?_push_size _ rfl))
  have g2 : (H5 s.heap o1 o2).get? (H1 s.heap o1).objs.size = some _ := Heap.get?_push_of_some _ (Heap.get?_push_of_some _ (Heap.get?_push_of_some _ (Heap.get?_push_size _ B2.free)))
  have g1 : (H5 s.heap o1 o2).get? s.heap.objs.size = some _ := Heap.get?_push_of_some _ (Heap.get?_push_of_some _ (Heap.get?_push_of_some _ (Heap.get?_push_of_some _ (Heap.get?_push_size _ B1.free))))
  show _ ∧ _
  rw [z2, z3, z4] at g5
  rw [z1, z2] at g3
  rw [z3] at g4
  rw [z1] at g2
  rw [z4]
  exact ⟨⟨_, g5, rfl⟩, h _ g5 g3 g4 g1 g2 z5 fun c o x => Heap.get?_push_of_some _ (Heap.get?_push_of_some _ (Heap.get?_push_of_some _ (Heap.get?_push_of_some _ (Heap.get?_push_of_some _ x))))⟩
variable {z TI TO i1 i2 : Addr} {fp1 fp2 : List Addr} {n i : Nat} {P1 P2 : Nat → Value → Prop} {St1 St2 : Nat → Heap → Prop} {a1 a2 : Value}
theorem iter_zs {f0 : Value} {f1 : Bool} {Q : Value → Shared → Prop} (hz : ZS s.heap z TI TO f0 f1) (h : Q (.ref z) s) : wpAny (model prog w) A (pyIter (.ref z)) Q E s := by
  have hT : s.TypeIs (.ref z) "zip" := ⟨_, hz, rfl⟩
  refine wpAny_pyIter_slot hT F.slot_zip_iter (wpAny_call_entry F.slot_zip_iter hT F.entry_zip_iter ?_ (F.args_zip_iter_1 _))
  show wpAny _ _ (ret (.ref z)) _ _ s
  exact wpAny_pure ⟨_, rfl, "zip", _, hT, F.slot_zip_next.lookup, h⟩
theorem go_zs {elts : List Expr} {k : Nat} {pos : Pos} {T : Addr} {f1 : Bool} {Q : Unit → Shared → Prop} (hz : ZS s.heap z TI TO (rawInt T) f1) (hQ : ∀ h', ZS h' z TI TO .none f1 → Heap.SameBut z s.heap h' → Q () { s with heap := h' }) :
    wpAny (model prog w) A (letOwnedTupleGo (.Tuple elts k pos) (.ref z) (.ref T)) Q E s := by
  unfold letOwnedTupleGo
  refine wpAny_bind (wpAny_load hz ?_)
  show wpAny _ A (if (["enumerate", "zip", "dict_itemiterator", "dict_reverseitemiterator", "odict_iterator", "itertools.zip_longest", "itertools.pairwise"].contains "zip" && (#[rawInt T, .bool f1, .bool true, .ref TI, .ref TO] : Array Value)[0]? == some (rawInt T)) = true then _ else _) Q E s
  rw [if_pos (by simp)]
  refine wpAny_bind (wpAny_rule ?_)
  show wpAny _ _ (setField (.ref z) 0 .none) Q E s
  exact wpAny_setField_rec hz (by simp) fun h' a b => hQ h' a b
theorem next_zs {f1 : Bool} {Q : Option Value → Shared → Prop} (S : ZipSep2 z TI TO i1 i2 fp1 fp2) (D1 : Draws prog w A.in1 i1 fp1 n P1 St1) (D2 : Draws prog w A.in1 i2 fp2 n P2 St2)
    (hz : ZS s.heap z TI TO .none f1) (hTI : IsTupOf2 s.heap TI (.ref i1) (.ref i2)) (hTO : IsTupOf2 s.heap TO a1 a2) (st1 : St1 i s.heap) (st2 : St2 i s.heap) (hlt : i < n)
    (hQ : ∀ x1 x2 h' tk, P1 i x1 → P2 i x2 → ZS h' z TI TO (rawInt s.heap.objs.size) false → IsTupOf2 h' TO x1 x2 → St1 (i + 1) h' → St2 (i + 1) h' → IsTupOf2 h' s.heap.objs.size x1 x2 → h'.objs.size = s.heap.objs.size + 1 →
      (∀ c o, c ≠ z → c ≠ TO → c ≠ i1 → c ≠ i2 → s.heap.get? c = some o → h'.get? c = some o) → Q (some (.ref s.heap.objs.size)) { s with heap := h', toks := tk }) :
    wpAny (model prog w) A (pyNext (.ref z)) Q E s := by
  have hT : s.TypeIs (.ref z) "zip" := ⟨_, hz, rfl⟩
  unfold pyNext
  exact wpAny_bind (wpAny_attempt (wpAny_callSpecial?_slot (name := Str.ofString "__next__") hT F.slot_zip_next
    (wpAny_call_entry F.slot_zip_next hT F.entry_zip_next (zs_item S D1 D2 hz hTI hTO st1 st2 hlt fun x1 x2 h' tk y1 y2 b1 b2 d1 d2 b5 b6 b7 => wpAny_pure (hQ x1 x2 h' tk y1 y2 b1 b2 d1 d2 b5 b6 b7)) (F.args_zip_next_1 _))))
theorem next2_zs {T : Addr} {f1 : Bool} {oT : Obj} {Q : Option Value → Shared → Prop} (S : ZipSep2 z TI TO i1 i2 fp1 fp2) (D1 : Draws prog w A.in1 i1 fp1 n P1 St1) (D2 : Draws prog w A.in1 i2 fp2 n P2 St2)
    (hz : ZS s.heap z TI TO (rawInt T) f1) (hT : s.heap.get? T = some oT) (hTI : IsTupOf2 s.heap TI (.ref i1) (.ref i2)) (st1 : St1 i s.heap) (st2 : St2 i s.heap) (hlt : i < n)
    (hQ : ∀ x1 x2 h' tk, P1 i x1 → P2 i x2 → ZS h' z TI TO (rawInt T) true → St1 (i + 1) h' → St2 (i + 1) h' → IsTupOf2 h' s.heap.objs.size x1 x2 → h'.objs.size = s.heap.objs.size + 1 →
      (∀ c o, c ≠ z → c ≠ i1 → c ≠ i2 → s.heap.get? c = some o → h'.get? c = some o) → Q (some (.ref s.heap.objs.size)) { s with heap := h', toks := tk }) :
    wpAny (model prog w) A (pyNext (.ref z)) Q E s := by
  have hTy : s.TypeIs (.ref z) "zip" := ⟨_, hz, rfl⟩
  unfold pyNext
  exact wpAny_bind (wpAny_attempt (wpAny_callSpecial?_slot (name := Str.ofString "__next__") hTy F.slot_zip_next
    (wpAny_call_entry F.slot_zip_next hTy F.entry_zip_next (zs_item2 S D1 D2 hz hT hTI st1 st2 hlt fun x1 x2 h' tk y1 y2 b1 d1 d2 b5 b6 b7 => wpAny_pure (hQ x1 x2 h' tk y1 y2 b1 d1 d2 b5 b6 b7)) (F.args_zip_next_1 _))))
theorem stop_zs {f1 : Bool} {Q : Option Value → Shared → Prop} (hh : A.handled = none) (S : ZipSep2 z TI TO i1 i2 fp1 fp2) (D1 : Draws prog w A.in1 i1 fp1 n P1 St1) (D2 : Draws prog w A.in1 i2 fp2 n P2 St2)
    (hz : ZS s.heap z TI TO .none f1) (hTI : IsTupOf2 s.heap TI (.ref i1) (.ref i2)) (hTO : IsTupOf2 s.heap TO a1 a2) (st1 : St1 n s.heap) (st2 : St2 n s.heap)
    (hQ : ∀ h', (∀ c o, c ≠ z → c ≠ i1 → c ≠ i2 → s.heap.get? c = some o → h'.get? c = some o) → Q none { s with heap := h' }) : wpAny (model prog w) A (pyNext (.ref z)) Q E s := by
  have hT : s.TypeIs (.ref z) "zip" := ⟨_, hz, rfl⟩
  unfold pyNext
  refine wpAny_bind (wpAny_attempt (wpAny_callSpecial?_slot (name := Str.ofString "__next__") hT F.slot_zip_next
    (wpAny_call_entry F.slot_zip_next hT F.entry_zip_next (zs_end hh S D1 D2 hz hTI hTO st1 st2 fun h' e hk he => ?_) (F.args_zip_next_1 _))))
  obtain ⟨o, ho, hc⟩ := he
  exact wpAny_bind (wpAny_isInstance (T := "StopIteration") (b := true) ⟨o, ho, hc⟩ isSubtype_stop (wpAny_pure (hQ _ hk)))
theorem stop2_zs {T : Addr} {f1 : Bool} {oT : Obj} {Q : Option Value → Shared → Prop} (hh : A.handled = none) (S : ZipSep2 z TI TO i1 i2 fp1 fp2) (D1 : Draws prog w A.in1 i1 fp1 n P1 St1) (D2 : Draws prog w A.in1 i2 fp2 n P2 St2)
    (hz : ZS s.heap z TI TO (rawInt T) f1) (hT : s.heap.get? T = some oT) (hTI : IsTupOf2 s.heap TI (.ref i1) (.ref i2)) (st1 : St1 n s.heap) (st2 : St2 n s.heap)
    (hQ : ∀ h', (∀ c o, c ≠ z → c ≠ i1 → c ≠ i2 → s.heap.get? c = some o → h'.get? c = some o) → Q none { s with heap := h' }) : wpAny (model prog w) A (pyNext (.ref z)) Q E s := by
  have hTy : s.TypeIs (.ref z) "zip" := ⟨_, hz, rfl⟩
  unfold pyNext
  refine wpAny_bind (wpAny_attempt (wpAny_callSpecial?_slot (name := Str.ofString "__next__") hTy F.slot_zip_next
    (wpAny_call_entry F.slot_zip_next hTy F.entry_zip_next (zs_end2 hh S D1 D2 hz hT hTI st1 st2 fun h' e hk he => ?_) (F.args_zip_next_1 _))))
  obtain ⟨o, ho, hc⟩ := he
  exact wpAny_bind (wpAny_isInstance (T := "StopIteration") (b := true) ⟨o, ho, hc⟩ isSubtype_stop (wpAny_pure (hQ _ hk)))
end
end Z

namespace N
open PySem L2 LamX
/-- what zip draws from: a list or a tuple -/
structure Src (K : PySem.W.Frag) (Sq : Hp → Addr → List V → Prop) (ItP : Heap → Addr → Addr → Nat → Prop) (IsA : Heap → Addr → Array Value → Prop) (io : Addr → Obj) : Prop where
  draws : ∀ (prog : Program) (w : World) (A : Around), A.handled = none → ∀ (it l : Addr) (items : Array Value), l ≠ it → Draws prog w A it [it, l] items.size (fun i v => items[i]? = some v) (fun i h => ItP h it l i ∧ IsA h l items)
  inv : ∀ (X : Cx) (pins : List (Addr × Obj)) (σ : L2.St) (H : Hp) (s : Shared) (a : Addr) (xs : List V), X.K = K → Inv X pins σ H s → Sq H a xs → ∃ its : List Value, Vals xs its ∧ IsA s.heap a its.toArray ∧ xs.length ≤ sizeLine ∧ a < s.heap.objs.size
  inj : ∀ (X : Cx) (pins : List (Addr × Obj)) (σ : L2.St) (H : Hp) (s : Shared) (a : Addr) (xs ys : List V), X.K = K → Inv X pins σ H s → Sq H a xs → Sq H a ys → xs = ys
  obj : ∀ h it l i, ItP h it l i → ∃ o, h.get? it = some o ∧ ∀ v, o.data ≠ .cell v
  keep : ∀ h h' it l i, ItP h it l i → (∀ o, h.get? it = some o → h'.get? it = some o) → ItP h' it l i
  begins : ∀ (l : Addr) (items : Array Value), Begins (.ref l) (io l) fun h => IsA h l items
  first : ∀ h it l, h.get? it = some (io l) → ItP h it l 0
  stay : ∀ h h' l items, IsA h l items → (∀ o, h.get? l = some o → h'.get? l = some o) → IsA h' l items
theorem src_list {K : PySem.W.Frag} : Src K (fun H a xs => SqL K H a xs) (fun h it l i => h.IsListIter it l i) (fun h l items => h.IsList l items) (fun l => { cls := .type "list_iterator", data := .fields #[.ref l, .int 0 0] }) where
  draws := fun prog w A hh it l items hne => Draws.list hh it l hne items
  inv := fun X pins σ H s a xs e I h => by
    subst e
    obtain ⟨its, r, p, z⟩ := I.list h
    exact ⟨its, r, p.isList, z, p.lt⟩
  inj := fun X pins σ H s a xs ys e I h h' => by
    subst e
    exact I.list_inj h h'
  obj := fun h it l i ⟨o, e, _, d⟩ => ⟨o, e, fun v q => by rw [d] at q; cases q⟩
  keep := fun h h' it l i x k => x.at k
  begins := fun l items => begins_list l items
  first := fun h it l e => ⟨_, e, rfl, rfl⟩
  stay := fun h h' l items x k => x.at k
theorem src_tup {K : PySem.W.Frag} : Src K (fun H a xs => SqT K H a xs) (fun h it l i => h.IsTupleIter it l i) (fun h l items => h.IsTuple l items) (fun l => { cls := .type "tuple_iterator", data := .fields #[.ref l, .int 0 0] }) where
  draws := fun prog w A hh it l items hne => Draws.tuple hh it l hne items
  inv := fun X pins σ H s a xs e I h => by
    subst e
    obtain ⟨its, r, p, z⟩ := I.tuple h
    obtain ⟨o, ho, _⟩ := id p
    exact ⟨its, r, p, z, Heap.lt_size ho⟩
  inj := fun X pins σ H s a xs ys e I h h' => by
    subst e
    exact I.tuple_inj h h'
  obj := fun h it l i ⟨o, e, _, d⟩ => ⟨o, e, fun v q => by rw [d] at q; cases q⟩
  keep := fun h h' it l i x k => x.at k
  begins := fun l items => begins_tuple l items
  first := fun h it l e => ⟨_, e, rfl, rfl⟩
  stay := fun h h' l items x k => x.at k
section
variable {K : PySem.W.Frag} {Sq1 Sq2 : Hp → Addr → List V → Prop} {It1 It2 : Heap → Addr → Addr → Nat → Prop} {Is1 Is2 : Heap → Addr → Array Value → Prop} {io1 io2 : Addr → Obj}
/-- pairs of two of one length -/
def Izs (Sq1 Sq2 : Hp → Addr → List V → Prop) (a b : Addr) : It :=
  ⟨fun i H => ∃ (xs ys : List V) (x y : V), Sq1 H a xs ∧ Sq2 H b ys ∧ xs.length = ys.length ∧ xs[i]? = some x ∧ ys[i]? = some y,
    fun i H v H' => ∃ T x y, v = .ref T ∧ H T = none ∧ H' = upd H T (.tup [x, y]) ∧ (∀ xs, Sq1 H a xs → xs[i]? = some x) ∧ ∀ ys, Sq2 H b ys → ys[i]? = some y,
    fun i H => ∃ xs ys : List V, Sq1 H a xs ∧ Sq2 H b ys ∧ xs.length = i ∧ ys.length = i⟩
theorem turn_zs {P : Program} {w : World} {elts : List Expr} {kk : Nat} {tpos : Pos} {a b z TI TO i1 i2 : Addr} (S1 : Src K Sq1 It1 Is1 io1) (S2 : Src K Sq2 It2 Is2 io2) (D : ZipSep2 z TI TO i1 i2 [i1, a] [i2, b]) (hA : a ≠ i1) (hB : b ≠ i2) :
    Turn P w K (.Tuple elts kk tpos) (Izs Sq1 Sq2 a b) [z, TI, TO, i1, i2] z (fun i h => (∃ f1, Z.ZS h z TI TO .none f1) ∧ IsTupOf2 h TI (.ref i1) (.ref i2) ∧ (∃ x y, IsTupOf2 h TO x y) ∧ It1 h i1 a i ∧ It2 h i2 b i) where
  mem := by simp
  obj := fun i h st c hc => by
    obtain ⟨⟨f1, hz⟩, hTI, ⟨x, y, hTO⟩, h1, h2⟩ := st
    have e' : c = z ∨ c = TI ∨ c = TO ∨ c = i1 ∨ c = i2 := by simpa using hc
    rcases e' with q | q | q | q | q
    · rw [q]; exact ⟨_, hz, fun v q => nomatch q⟩
    · rw [q]; exact ⟨_, hTI, fun v q => nomatch q⟩
    · rw [q]; exact ⟨_, hTO, fun v q => nomatch q⟩
    · rw [q]; exact S1.obj _ _ _ _ h1
    · rw [q]; exact S2.obj _ _ _ _ h2
  keep := fun i h h' st k => by
    obtain ⟨⟨f1, hz⟩, hTI, ⟨x, y, hTO⟩, h1, h2⟩ := st
    exact ⟨⟨f1, k z (by simp) _ hz⟩, k TI (by simp) _ hTI, ⟨x, y, k TO (by simp) _ hTO⟩, S1.keep _ _ _ _ _ h1 fun o q => k i1 (by simp) o q, S2.keep _ _ _ _ _ h2 fun o q => k i2 (by simp) o q⟩
  item := by
    intro X hP hw hK hc i pins s σ H E I hf st hg
    subst hP hw
    obtain ⟨⟨f1, hz⟩, hTI, ⟨x0, y0, hTO⟩, h1, h2⟩ := st
    obtain ⟨xs, ys, x, y, hqx, hqy, hl, hx, hy⟩ := hg
    obtain ⟨its, rv, p, _⟩ := S1.inv X pins σ H s a xs hK I hqx
    obtain ⟨its2, rv2, p2, _⟩ := S2.inv X pins σ H s b ys hK I hqy
    obtain ⟨u, hu, ru⟩ := rv.get hx
    obtain ⟨u2, hu2, ru2⟩ := rv2.get hy
    have l1 := rv.length
    have l2 := rv2.length
    have hi : i < its.toArray.size := by
      rw [List.size_toArray]
      exact (List.getElem?_eq_some_iff.mp hu).1
    obtain ⟨u0, hu0⟩ : ∃ q, q = i1 := ⟨_, rfl⟩
    have D1 := S1.draws X.prog X.w X.A.in1 (I.ok.hd hc) i1 a its.toArray hA
    have D2 := S2.draws X.prog X.w X.A.in1 (I.ok.hd hc) i2 b its2.toArray hB
    have e12 : its2.toArray.size = its.toArray.size := by simp; omega
    rw [e12] at D2
    have hzl : z < s.heap.objs.size := Heap.lt_size hz
    refine Z.next_zs D D1 D2 hz hTI hTO ⟨h1, p⟩ ⟨h2, p2⟩ hi fun x1 x2 h' tk y1 y2 z' TO' h1' h2' hT hsz hk => ?_
    have e1 : x1 = u := by
      have : its.toArray[i]? = some u := by simpa using hu
      rw [this] at y1
      exact (Option.some.inj y1).symm
    have e2 : x2 = u2 := by
      have : its2.toArray[i]? = some u2 := by simpa using hu2
      rw [this] at y2
      exact (Option.some.inj y2).symm
    subst e1 e2
    refine ⟨_, rfl, Z.go_zs (s := { s with heap := h', toks := tk }) z' fun h'' z'' sb => ?_⟩
    have hT2 : h''.get? s.heap.objs.size = some { cls := .type "tuple", data := .seq #[x1, x2] } := (sb.2 _ (Nat.ne_of_gt hzl)).trans hT
    have new : ObjOk X.prog X.w (upd H s.heap.objs.size (.tup [x, y])) h'' s.heap.objs.size (.tup [x, y]) :=
      ⟨by show 2 ≤ sizeLine; decide, [x1, x2], .cons ru (.cons ru2 .nil), ⟨_, hT2, rfl, _, rfl⟩⟩
    have I1 : Inv X pins σ (upd H s.heap.objs.size (.tup [x, y])) { s with heap := h'', toks := tk } :=
      I.turnedNew (t' := tk) (ch := [z, TI, TO, i1, i2]) (fun c o hb q => (sb.2 c (fun q' => hb (by simp [q']))).trans (hk c o (fun q' => hb (by simp [q'])) (fun q' => hb (by simp [q'])) (fun q' => hb (by simp [q'])) (fun q' => hb (by simp [q'])) q)) hf (Nat.le_refl _) new
    refine ⟨.ref s.heap.objs.size, _, I1, rfl, ⟨_, x, y, rfl, I.hok.fresh (Nat.le_refl _), rfl, fun l hl => by rw [S1.inj X pins σ H s a _ _ hK I hl hqx]; exact hx, fun l hl => by rw [S2.inj X pins σ H s b _ _ hK I hl hqy]; exact hy⟩, ⟨⟨_, z''⟩, ?_, ⟨x1, x2, ?_⟩, ?_, ?_⟩, fun c hcm => ?_⟩
    · exact (sb.2 _ D.TIz).trans (hk _ _ D.TIz D.TITO D.TIi1 D.TIi2 hTI)
    · exact (sb.2 _ D.TOz).trans TO'
    · exact S1.keep _ _ _ _ _ h1'.1 fun o q => (sb.2 _ D.zi1.symm).trans q
    · exact S2.keep _ _ _ _ _ h2'.1 fun o q => (sb.2 _ D.zi2.symm).trans q
    · have hlt : c < s.heap.objs.size := by
        have e' : c = z ∨ c = TI ∨ c = TO ∨ c = i1 ∨ c = i2 := by simpa using hcm
        rcases e' with q | q | q | q | q
        · rw [q]; exact hzl
        · rw [q]; exact Heap.lt_size hTI
        · rw [q]; exact Heap.lt_size hTO
        · rw [q]; obtain ⟨_, e1, _⟩ := S1.obj _ _ _ _ h1; exact Heap.lt_size e1
        · rw [q]; obtain ⟨_, e2, _⟩ := S2.obj _ _ _ _ h2; exact Heap.lt_size e2
      rw [upd_ne (Nat.ne_of_lt hlt)]
      exact (hf c hcm).1
  done := by
    intro X hP hw hK hc i pins s σ H E I hf st hg
    subst hP hw
    obtain ⟨⟨f1, hz⟩, hTI, ⟨x0, y0, hTO⟩, h1, h2⟩ := st
    obtain ⟨xs, ys, hqx, hqy, l1, l2⟩ := hg
    obtain ⟨its, rv, p, _⟩ := S1.inv X pins σ H s a xs hK I hqx
    obtain ⟨its2, rv2, p2, _⟩ := S2.inv X pins σ H s b ys hK I hqy
    have l3 := rv.length
    have l4 := rv2.length
    have D1 := S1.draws X.prog X.w X.A.in1 (I.ok.hd hc) i1 a its.toArray hA
    have D2 := S2.draws X.prog X.w X.A.in1 (I.ok.hd hc) i2 b its2.toArray hB
    have e1 : its.toArray.size = i := by simp; omega
    have e2 : its2.toArray.size = i := by simp; omega
    rw [e1] at D1
    rw [e2] at D2
    exact Z.stop_zs (I.ok.hd hc) D D1 D2 hz hTI hTO ⟨h1, p⟩ ⟨h2, p2⟩ fun h' hk => ⟨rfl, I.turnedL (t' := s.toks) (ch := [z, TI, TO, i1, i2]) (fun c o hb q =>
      hk c o (fun q' => hb (by simp [q'])) (fun q' => hb (by simp [q'])) (fun q' => hb (by simp [q'])) q) hf⟩
  self := fun A i s Q E st h => Z.iter_zs st.1.choose_spec h
end
end N

namespace N
open PySem L2 LamX
section
variable {M : Model} {A : Around} {E : Value → Shared → Prop} {s : Shared} {env : Env}
theorem callType_kws {pos : Pos} {T : String} {args : List (Bool × Sem Value)} {keywords : List (Option Str × Sem Value)} {Q : Value → Shared → Prop}
    (hplain : args.any (·.1) = false) (hkw : keywords.any (·.1.isNone) = false)
    (h : wpAny M A (evalArgs (.type T) true args keywords) (fun a s₁ => wpAny M A (call (.type T) a.pos a.kw) Q E s₁) E s) :
    wpAny M A (callWith pos (.type T) [] args keywords) Q E s := by
  unfold callWith
  refine wpAny_bind (wpAny_holding (wpAny_mono h (fun a s₁ h₁ => wpAny_bind (wpAny_standAt ?_)) fun _ _ x => x))
  simp only [hplain, hkw, Bool.or_false]
  refine wpAny_bind (wpAny_pure ?_)
  exact wpAny_bind (wpAny_mono h₁ (fun r s₂ hr => wpAny_bind (wpAny_holding (wpAny_point (wpAny_pure hr)))) fun _ _ x => x)
theorem typeKw {pos : Pos} {T : String} {e : Expr} {rest : List Expr} {kws : List Keyword} {Q : Value → Shared → Prop}
    (h : wpAny M A (spliced (backTo pos (starEach (e :: rest) env))) (fun vs s₁ => wpAny M A (evalAll ((backToKw pos (keywordEach kws env)).map (·.2)))
      (fun kvs s₂ => wpAny M A (call (.type T) vs (((backToKw pos (keywordEach kws env)).filterMap (·.1)).zip kvs)) Q E s₂) E s₁) E s)
    (he : backTo pos (starEach (e :: rest) env) = (false, eval e env) :: backTo pos (starEach rest env))
    (hplain : (backTo pos (starEach (e :: rest) env)).any (·.1) = false)
    (hall : (backToKw pos (keywordEach kws env)).all (·.1.isSome) = true)
    (hkw : (backToKw pos (keywordEach kws env)).any (·.1.isNone) = false) :
    wpAny M A (callWith pos (.type T) [] (backTo pos (starEach (e :: rest) env)) (backToKw pos (keywordEach kws env))) Q E s := by
  refine callType_kws hplain hkw ?_
  rw [he] at h ⊢
  exact PyProof.Rows.evalArgs_kwB hall h
end
section
variable {X : Cx}
/-- zip(a, b, strict=True): the walk over its pairs -/
def iZs (Sq1 Sq2 : Hp → Addr → List V → Prop) (ta : TA) : TI := fun σ H R => ta σ H fun vs H1 => ∃ a b xs ys, vs = [.ref a, .ref b] ∧ Sq1 H1 a xs ∧ Sq2 H1 b ys ∧ xs.length = ys.length ∧ R (Izs Sq1 Sq2 a b) H1
theorem pi_zs {Sq1 Sq2 : Hp → Addr → List V → Prop} {It1 It2 : Heap → Addr → Addr → Nat → Prop} {Is1 Is2 : Heap → Addr → Array Value → Prop} {io1 io2 : Addr → Obj} (S1 : Src X.K Sq1 It1 Is1 io1) (S2 : Src X.K Sq2 It2 Is2 io2)
    {e e2 : Expr} {ta : TA} {p kpos cpos pos tpos : Pos} {elts : List Expr} {kk j : Nat} (hg : Gl X "zip") (hm : X.mg "zip" = none) (ha : PA X [e, e2] ta)
    (hs : starEach [e, e2] X.env = (false, eval e X.env) :: starEach [e2] X.env) (hs2 : starEach [e2] X.env = (false, eval e2 X.env) :: starEach [] X.env) :
    PI X (.Tuple elts kk tpos) (.Call (.Name "zip" p) [e, e2] [⟨some "strict", .Constant (.bool true) j cpos, kpos⟩] pos) (iZs Sq1 Sq2 ta) := by
  refine ⟨fun pins s σ H R I h => ?_⟩
  refine wpAny_Call_Name_kw (ld_blt I hg hm PyProof.Rows.boot_zip ?_)
  refine typeKw (thn (ha.run pos pins s σ H _ I h) fun us s1 ⟨vs, H1, I1, r1, q1⟩ => ?_) (by rw [hs]; rfl) (by rw [hs, hs2]; rfl) (by rfl) (by rfl)
  show wpAny _ _ (evalAll [(do let v ← eval (.Constant (.bool true) j cpos) X.env; standAt pos; pure v)]) _ _ s1
  refine wpAny_evalAll_cons (wpAny_bind ?_)
  refine thn (pe_bl.run pins s1 σ H1 (fun v H2 => v = .bl true ∧ H2 = H1) I1 ⟨rfl, rfl⟩) fun v s2 ⟨x, H2, I2, rb, e1, e2⟩ => ?_
  subst e1 e2
  cases rb
  refine wpAny_bind (wpAny_standAt (wpAny_pure (wpAny_evalAll_nil ?_)))
  obtain ⟨a, b, xs, ys, ex, hqx, hqy, hl, q⟩ := q1
  subst ex
  cases r1 with
  | cons r rr =>
    cases rr with
    | cons r' rr =>
      cases rr
      cases r
      cases r'
      obtain ⟨its, rv, p1, _, la⟩ := S1.inv X pins σ H2 s2 a xs rfl I2 hqx
      obtain ⟨its2, rv2, p2, _, lb⟩ := S2.inv X pins σ H2 s2 b ys rfl I2 hqy
      have fresh5 : ∀ c, c ∈ [s2.heap.objs.size + 4, s2.heap.objs.size + 2, s2.heap.objs.size + 3, s2.heap.objs.size, s2.heap.objs.size + 1] → FpOk X pins H2 c := fun c hcm => by
        have e' : c = s2.heap.objs.size + 4 ∨ c = s2.heap.objs.size + 2 ∨ c = s2.heap.objs.size + 3 ∨ c = s2.heap.objs.size ∨ c = s2.heap.objs.size + 1 := by simpa using hcm
        have hle : s2.heap.objs.size ≤ c := by
          rcases e' with z | z | z | z | z
          · rw [z]; exact Nat.le_add_right _ _
          · rw [z]; exact Nat.le_add_right _ _
          · rw [z]; exact Nat.le_add_right _ _
          · rw [z]; exact Nat.le_refl _
          · rw [z]; exact Nat.le_add_right _ _
        exact I2.fpOk hle (I2.hok.fresh hle)
      refine Z.call_zs (S1.begins a its.toArray) (S2.begins b its2.toArray) p1 p2 fun h' hz hTI hTO h1 h2 hsz hk => ?_
      refine Z.iter_zs (s := { s2 with heap := h' }) hz ?_
      have I3 : Inv X pins σ H2 { s2 with heap := h' } := I2.kept (t' := s2.toks) hk
      have sep : ZipSep2 (s2.heap.objs.size + 4) (s2.heap.objs.size + 2) (s2.heap.objs.size + 3) s2.heap.objs.size (s2.heap.objs.size + 1) [s2.heap.objs.size, a] [s2.heap.objs.size + 1, b] :=
        zip_sep2 (fun c hc => by rw [List.mem_singleton.mp hc]; exact la) (fun c hc => by rw [List.mem_singleton.mp hc]; exact lb)
      refine ⟨s2.heap.objs.size + 4, [s2.heap.objs.size + 4, s2.heap.objs.size + 2, s2.heap.objs.size + 3, s2.heap.objs.size, s2.heap.objs.size + 1], _, _, H2, rfl, I3, turn_zs S1 S2 sep (Nat.ne_of_lt la) (Nat.ne_of_lt (Nat.lt_succ_of_lt lb)), ⟨⟨_, hz⟩, hTI, ⟨_, _, hTO⟩, S1.first _ _ _ h1, S2.first _ _ _ h2⟩, fresh5, q⟩
variable {T : Tbl} {δ : Sl} {a b : Expr} {ds ds2 : List PyData}
/-- zip of a list and a tuple of one length -/
theorem evi_zsLT {p kpos cpos pos tpos : Pos} {elts : List Expr} {kk j : Nat} (B : Bn X.mg) (h1 : Ev T X a δ (.d (.list ds))) (h2 : Ev T X b δ (.d (.tuple ds2))) (hl : ds.length = ds2.length) (hg : Gl X "zip" := by rfl)
    (hs : starEach [a, b] X.env = (false, eval a X.env) :: starEach [b] X.env := by rfl) (hs2 : starEach [b] X.env = (false, eval b X.env) :: starEach [] X.env := by rfl) :
    Evi T X (.Tuple elts kk tpos) (.Call (.Name "zip" p) [a, b] [⟨some "strict", .Constant (.bool true) j cpos, kpos⟩] pos) δ (pairsD ds ds2) := by
  refine ⟨_, pi_zs src_list src_tup hg B.zip (pa_cons (pe_best X) (pa_cons (pe_best X) pa_nil hs2) hs) hs hs2, fun S σ H ad R k => h1 S σ H ad _ fun v H1 g r => h2 S σ H1 (ad.grow g) _ fun w H2 g2 r2 => ?_⟩
  cases r with
  | lst hq ha => cases r2 with
    | tup hq2 ha2 =>
      have l1 := ha.length
      have l2 := ha2.length
      refine ⟨_, _, _, _, rfl, (hq.grow g2).sq, hq2, by omega, k _ H2 (g.trans g2) ?_⟩
      rename_i a0 xs b0 ys
      have w : Walk (Izs (fun H a xs => SqL X.K H a xs) (fun H a xs => SqT X.K H a xs) a0 b0) xs.length (fun H => SqL X.K H a0 xs ∧ SqT X.K H b0 ys) (YPair (fun i => xs[i]?) (fun i => ys[i]?)) := by
        refine ⟨fun i _ hi q => ?_, fun _ q => ⟨xs, ys, q.1, q.2, rfl, by omega⟩, fun i H v H' _ q y => ?_⟩
        · have q1 : i < xs.length := by omega
          have q2 : i < ys.length := by omega
          exact ⟨xs, ys, xs[i], ys[i], q.1, q.2, by omega, by simp [q1], by simp [q2]⟩
        · obtain ⟨T, x, z, h1, h2, h3, h4, h5⟩ := y
          exact ⟨T, x, z, h1, h2, h3, h4 xs q.1, h5 ys q.2⟩
      refine wk_pair w (fun H3 g3 => ⟨((hq.grow g2).grow g3).sq, SqT.grow g3 hq2⟩) (by rw [pairsD_length]; omega) fun S' hS i u v hi e1 e2 => ?_
      obtain ⟨d1, q1, q2⟩ := ((ha.grow g2).more hS).getV e1
      obtain ⟨d2, q3, q4⟩ := (ha2.more hS).getV e2
      exact ⟨d1, d2, pairsD_get _ _ _ _ _ q1 q3, q2, q4⟩
end
/-! ### enumerate(list, start=1) -/
def IteS (K : PySem.W.Frag) (k0 : Int) (a : Addr) : It :=
  ⟨fun i H => ∃ (xs : List V) (x : V), SqL K H a xs ∧ xs[i]? = some x, fun i H v H' => ∃ T x, v = .ref T ∧ H T = none ∧ H' = upd H T (.tup [.int (k0 + (i : Nat)), x]) ∧ ∀ xs, SqL K H a xs → xs[i]? = some x, fun i H => ∃ xs : List V, SqL K H a xs ∧ xs.length = i⟩
theorem turn_enumS {P : Program} {w : World} {K : PySem.W.Frag} {elts : List Expr} {kk : Nat} {tpos : Pos} (k0 : Int) (a e it : Addr) (hae : a ≠ it) (hea : e ≠ a) :
    Turn P w K (.Tuple elts kk tpos) (IteS K k0 a) [e, it] e (fun i h => (∃ old, IsEnum h e it (k0 + ((i : Nat) : Int)) old) ∧ h.IsListIter it a i ∧ e ≠ it) where
  mem := by simp
  obj := fun i h st b hb => by
    obtain ⟨⟨old, he⟩, ⟨o, ho, hc, hd⟩, _⟩ := st
    have e' : b = e ∨ b = it := by simpa using hb
    rcases e' with z | z
    · rw [z]; exact ⟨_, he, fun v q => nomatch q⟩
    · rw [z]; exact ⟨o, ho, fun v q => by rw [hd] at q; cases q⟩
  keep := fun i h h' st k => let ⟨⟨old, he⟩, hi, hne⟩ := st; ⟨⟨old, k e (by simp) _ he⟩, hi.at fun o q => k it (by simp) o q, hne⟩
  item := by
    intro X hP hw hK hc i pins s σ H E I hf st hg
    subst hP hw hK
    obtain ⟨⟨old, he⟩, hit, hne⟩ := st
    obtain ⟨xs, x, hq, hx⟩ := hg
    obtain ⟨its, rv, p, hz⟩ := I.list hq
    obtain ⟨u, hu, ru⟩ := rv.get hx
    have hel : e < s.heap.objs.size := Heap.lt_size he
    have hil : it < s.heap.objs.size := by obtain ⟨_, q, _⟩ := hit; exact Heap.lt_size q
    have D := src_list.draws (K := X.K) X.prog X.w X.A.in1 (I.ok.hd hc) it a its.toArray hae
    have hil2 : i < its.toArray.size := by
      rw [List.size_toArray]
      exact (List.getElem?_eq_some_iff.mp hu).1
    refine wpAny_pyNext_enum_itemC D he ⟨hit, p.isList⟩ hil2 hne (by simp [hne, hea]) fun x1 h' tk y1 ho hit' hT hsz hk => ?_
    have e1 : x1 = u := by
      have : its.toArray[i]? = some u := by simpa using hu
      rw [this] at y1
      exact (Option.some.inj y1).symm
    subst e1
    refine ⟨_, rfl, wpAny_letOwnedTupleGo_enum (s := { s with heap := h', toks := tk + 1 }) ho fun h'' he' sb => ?_⟩
    have hT2 : h''.get? s.heap.objs.size = some { cls := .type "tuple", data := .seq #[.int (k0 + (i : Nat)) tk, x1] } := (sb.2 _ (Nat.ne_of_gt hel)).trans hT
    have new : ObjOk X.prog X.w (upd H s.heap.objs.size (.tup [.int (k0 + (i : Nat)), x])) h'' s.heap.objs.size (.tup [.int (k0 + (i : Nat)), x]) :=
      ⟨by show 2 ≤ sizeLine; decide, [.int (k0 + (i : Nat)) tk, x1], .cons ⟨_, rfl⟩ (.cons ru .nil), ⟨_, hT2, rfl, _, rfl⟩⟩
    have I1 : Inv X pins σ (upd H s.heap.objs.size (.tup [.int (k0 + (i : Nat)), x])) { s with heap := h'', toks := tk + 1 } :=
      I.turnedNew (ch := [e, it]) (fun b ob hb q => (sb.2 b (fun z => hb (by simp [z]))).trans (hk b ob (fun z => hb (by simp [z])) (fun z => hb (by simp [z])) q)) hf (Nat.le_refl _) new
    refine ⟨.ref s.heap.objs.size, _, I1, rfl, ⟨_, x, rfl, I.hok.fresh (Nat.le_refl _), rfl, fun ys hy => by rw [I.list_inj hy hq]; exact hx⟩, ⟨⟨x1, ?_⟩, hit'.1.at fun o q => (sb.2 it (Ne.symm hne)).trans q, hne⟩, fun b hb => ?_⟩
    · have e1 : k0 + ((i + 1 : Nat) : Int) = k0 + (i : Int) + 1 := by omega
      rw [e1]; exact he'
    · have hb' : b < s.heap.objs.size := by
        have e' : b = e ∨ b = it := by simpa using hb
        rcases e' with z | z
        · rw [z]; exact hel
        · rw [z]; exact hil
      rw [upd_ne (Nat.ne_of_lt hb')]
      exact (hf b hb).1
  done := by
    intro X hP hw hK hc i pins s σ H E I hf st hg
    subst hP hw hK
    obtain ⟨⟨old, he⟩, hit, hne⟩ := st
    obtain ⟨xs, hq, hx⟩ := hg
    obtain ⟨its, rv, p, hz⟩ := I.list hq
    obtain ⟨f0, f1, f2, f3, f4, f5⟩ := hf it (by simp)
    have hl := rv.length
    have D := src_list.draws (K := X.K) X.prog X.w X.A.in1 (I.ok.hd hc) it a its.toArray hae
    have e1 : its.toArray.size = i := by simp; omega
    rw [e1] at D
    exact wpAny_pyNext_enum_endD D he ⟨hit, p.isList⟩ fun h' eb => ⟨rfl, I.turned (t' := s.toks) (fun b o hb q => eb b o hb q) f0 f1 f3 f4 f5⟩
  self := fun A i s Q E st h => let ⟨⟨_, he⟩, _⟩ := st; wpAny_pyIter_enum he h
def iEnumS (K : PySem.W.Frag) (k0 : Int) (ta : TA) : TI := fun σ H R => ta σ H fun vs H1 => ∃ a xs, vs = [.ref a] ∧ SqL K H1 a xs ∧ R (IteS K k0 a) H1
section
variable {X : Cx}
theorem pi_enumS {k0 : Int} {e : Expr} {ta : TA} {p kpos cpos pos tpos : Pos} {elts : List Expr} {kk j : Nat} (hk0 : -1000 ≤ k0 ∧ k0 ≤ 1000) (hg : Gl X "enumerate") (hm : X.mg "enumerate" = none) (ha : PA X [e] ta) (hs : starEach [e] X.env = (false, eval e X.env) :: starEach [] X.env) :
    PI X (.Tuple elts kk tpos) (.Call (.Name "enumerate" p) [e] [⟨some "start", .Constant (.int k0) j cpos, kpos⟩] pos) (iEnumS X.K k0 ta) := by
  refine ⟨fun pins s σ H R I h => ?_⟩
  refine wpAny_Call_Name_kw (ld_blt I hg hm PyProof.Rows.boot_enumerate ?_)
  refine typeKw (thn (ha.run pos pins s σ H _ I h) fun us s1 ⟨vs, H1, I1, r1, q1⟩ => ?_) (by rw [hs]; rfl) (by rw [hs]; rfl) (by rfl) (by rfl)
  show wpAny _ _ (evalAll [(do let v ← eval (.Constant (.int k0) j cpos) X.env; standAt pos; pure v)]) _ _ s1
  refine wpAny_evalAll_cons (wpAny_bind ?_)
  refine thn (pe_int.run pins s1 σ H1 (fun v H2 => v = .int k0 ∧ H2 = H1) I1 ⟨rfl, rfl⟩) fun v s2 ⟨x, H2, I2, rb, e1, e2⟩ => ?_
  subst e1 e2
  obtain ⟨tk, rfl⟩ := rb
  refine wpAny_bind (wpAny_standAt (wpAny_pure (wpAny_evalAll_nil ?_)))
  obtain ⟨a, xs, ex, hq, q⟩ := q1
  subst ex
  cases r1 with
  | cons r rr =>
    cases rr
    cases r
    obtain ⟨its, rv, p1, _, la⟩ := src_list.inv X pins σ H2 s2 a xs rfl I2 hq
    refine enum_begins_start (k := k0) (t := tk) (begins_list a its.toArray) p1 (by omega) (by omega) fun h' he hit hsz hk => ?_
    refine wpAny_pyIter_enum (s := { s2 with heap := h' }) he ?_
    have I3 : Inv X pins σ H2 { s2 with heap := h' } := I2.kept (t' := s2.toks) hk
    refine ⟨s2.heap.objs.size + 1, [s2.heap.objs.size + 1, s2.heap.objs.size], _, _, H2, rfl, I3, turn_enumS k0 a (s2.heap.objs.size + 1) s2.heap.objs.size (Nat.ne_of_lt la) (Nat.ne_of_gt (Nat.lt_succ_of_lt la)), ⟨⟨.none, by simpa using he⟩, src_list.first (K := X.K) _ _ _ hit, Nat.succ_ne_self _⟩, fun b hb => ?_, q⟩
    have e' : b = s2.heap.objs.size + 1 ∨ b = s2.heap.objs.size := by simpa using hb
    have hle : s2.heap.objs.size ≤ b := by
      rcases e' with z | z
      · rw [z]; exact Nat.le_add_right _ _
      · rw [z]; exact Nat.le_refl _
    exact I2.fpOk hle (I2.hok.fresh hle)
def enumF (k0 : Int) (ds : List PyData) : List PyData := pairsD (rngF k0 ds.length) ds
variable {T : Tbl} {δ : Sl} {a b : Expr} {ds : List PyData}
theorem wk_enumS {K : PySem.W.Frag} {S : Addr → Prop} {k0 : Int} {H2 : Hp} {a0 : Addr} {xs : List V} (hq : SL K S H2 a0 xs) (ha : RpA K S H2 xs ds) : WkD K T S (IteS K k0 a0) (enumF k0 ds) H2 := by
  have l1 := ha.length
  have w : Walk (IteS K k0 a0) xs.length (fun H => SqL K H a0 xs) (YPair (fun i => some (.int (k0 + (i : Nat)))) (fun i => xs[i]?)) := by
    refine ⟨fun i _ hi q => ?_, fun _ q => ⟨xs, q, rfl⟩, fun i H v H' _ q y => ?_⟩
    · have q1 : i < xs.length := by omega
      exact ⟨xs, xs[i], q, by simp [q1]⟩
    · obtain ⟨T, x, h1, h2, h3, h4⟩ := y
      exact ⟨T, _, x, h1, h2, h3, rfl, h4 xs q⟩
  have hr : (rngF k0 ds.length).length = ds.length := by unfold rngF; simp
  refine wk_pair w (fun H3 g3 => (hq.grow g3).sq) (by show (pairsD _ _).length = _; rw [pairsD_length, hr]; omega) fun S' hS i u v hi e1 e2 => ?_
  obtain ⟨d2, q3, q4⟩ := (ha.more hS).getV e2
  cases e1
  refine ⟨.int (k0 + (i : Nat)), d2, pairsD_get _ _ _ _ _ ?_ q3, Rp.int _, q4⟩
  unfold rngF
  rw [List.getElem?_map, List.getElem?_range (by omega)]
  rfl
theorem evi_enumS {k0 : Int} {p kpos cpos pos tpos : Pos} {elts : List Expr} {kk j : Nat} (B : Bn X.mg) (hk0 : -1000 ≤ k0 ∧ k0 ≤ 1000) (h1 : Ev T X a δ (.d (.list ds))) (hm : X.mg "enumerate" = none) (hg : Gl X "enumerate" := by rfl)
    (hs : starEach [a] X.env = (false, eval a X.env) :: starEach [] X.env := by rfl) : Evi T X (.Tuple elts kk tpos) (.Call (.Name "enumerate" p) [a] [⟨some "start", .Constant (.int k0) j cpos, kpos⟩] pos) δ (enumF k0 ds) := by
  refine ⟨_, pi_enumS hk0 hg hm (pa_cons (pe_best X) pa_nil hs) hs, fun S σ H ad R k => h1 S σ H ad _ fun v H1 g r => ?_⟩
  cases r with
  | lst hq ha => exact ⟨_, _, rfl, hq.sq, k _ H1 g (wk_enumS hq ha)⟩
/-- enumerate of a list -/
theorem evi_enum {p pos tpos : Pos} {elts : List Expr} {kk : Nat} (B : Bn X.mg) (h1 : Ev T X a δ (.d (.list ds))) (hm : X.mg "enumerate" = none) (hg : Gl X "enumerate" := by rfl)
    (hs : starEach [a] X.env = (false, eval a X.env) :: starEach [] X.env := by rfl) (hs' : starEach [a] X.env = [(false, eval a X.env)] := by rfl) : Evi T X (.Tuple elts kk tpos) (.Call (.Name "enumerate" p) [a] [] pos) δ (enumF 0 ds) := by
  refine ⟨_, pi_enum hg hm (pa_cons (pe_best X) pa_nil hs) hs', fun S σ H ad R k => h1 S σ H ad _ fun v H1 g r => ?_⟩
  cases r with
  | lst hq ha =>
    refine ⟨_, _, rfl, hq.sq, k _ H1 g ?_⟩
    rename_i a0 xs
    have l1 := ha.length
    have w : Walk (Ite X.K a0) xs.length (fun H => SqL X.K H a0 xs) (YPair (fun i => some (.int ((i : Nat) : Int))) (fun i => xs[i]?)) := by
      refine ⟨fun i _ hi q => ?_, fun _ q => ⟨xs, q, Nat.le_refl _⟩, fun i H v H' _ q y => ?_⟩
      · have q1 : i < xs.length := by omega
        exact ⟨xs, xs[i], q, by simp [q1]⟩
      · obtain ⟨T, x, h1, h2, h3, h4⟩ := y
        exact ⟨T, _, x, h1, h2, h3, rfl, h4 xs q⟩
    have hr : (rngF 0 ds.length).length = ds.length := by unfold rngF; simp
    refine wk_pair w (fun H3 g3 => (hq.grow g3).sq) (by show (pairsD _ _).length = _; rw [pairsD_length, hr]; omega) fun S' hS i u v hi e1 e2 => ?_
    obtain ⟨d2, q3, q4⟩ := (ha.more hS).getV e2
    cases e1
    refine ⟨.int ((i : Nat) : Int), d2, pairsD_get _ _ _ _ _ ?_ q3, Rp.int _, q4⟩
    unfold rngF
    rw [List.getElem?_map, List.getElem?_range (by omega)]
    exact congrArg (fun x => some (PyData.int x)) (Int.zero_add _)
end
end N

namespace Z
open PySem
theorem zip_no_len : typeLookup (.type "zip") "__len__" = pure none := by rw [typeLookup_type, builtinLookup_eq_fast]; kernel_rfl
theorem zip_no_hint : typeLookup (.type "zip") "__length_hint__" = pure none := by rw [typeLookup_type, builtinLookup_eq_fast]; kernel_rfl
/-- the pairs that a list has got -/
structure ZG (ps qs : Array Value) (lo : Addr) (h : Heap) (as : List Addr) : Prop where
  rise : as.Pairwise (· < ·)
  above : ∀ a ∈ as, lo < a
  pairs : ∀ (j : Nat) (a : Addr), as[j]? = some a → ∃ x y, ps[j]? = some x ∧ qs[j]? = some y ∧ h.get? a = some { cls := .type "tuple", data := .seq #[x, y] }
/-- a strict zip of two tuples, after i pairs, all its pairs being held -/
def ZL (ps qs : Array Value) (z TI TO i1 i2 a b lo : Addr) (i : Nat) (h : Heap) : Prop :=
  IsTupOf2 h TI (.ref i1) (.ref i2) ∧ (h.IsTupleIter i1 a i ∧ h.IsTuple a ps) ∧ (h.IsTupleIter i2 b i ∧ h.IsTuple b qs) ∧
    ((i = 0 ∧ (∃ f1, ZS h z TI TO .none f1) ∧ ∃ x y, IsTupOf2 h TO x y) ∨ ∃ (T : Addr) (f1 : Bool) (oT : Obj), ZS h z TI TO (rawInt T) f1 ∧ h.get? T = some oT ∧ lo < T)
structure Low (z TI TO i1 i2 a b S : Addr) : Prop where
  z : z < S
  TI : TI < S
  TO : TO < S
  j1 : i1 < S
  j2 : i2 < S
  ja : a < S
  jb : b < S
  a1 : a ≠ i1
  b2 : b ≠ i2
theorem ZL.keep {ps qs : Array Value} {z TI TO i1 i2 a b S : Addr} {i : Nat} {h h' : Heap} (L : Low z TI TO i1 i2 a b S) (x : ZL ps qs z TI TO i1 i2 a b S i h) (k : ∀ c o, c ≠ S → h.get? c = some o → h'.get? c = some o) : ZL ps qs z TI TO i1 i2 a b S i h' := by
  obtain ⟨h1, ⟨h2, h3⟩, ⟨h4, h5⟩, h6⟩ := x
  refine ⟨k _ _ (Nat.ne_of_lt L.TI) h1, ⟨h2.at fun o q => k _ _ (Nat.ne_of_lt L.j1) q, h3.at fun o q => k _ _ (Nat.ne_of_lt L.ja) q⟩, ⟨h4.at fun o q => k _ _ (Nat.ne_of_lt L.j2) q, h5.at fun o q => k _ _ (Nat.ne_of_lt L.jb) q⟩, ?_⟩
  rcases h6 with ⟨e, ⟨f1, hz⟩, x, y, hT⟩ | ⟨T, f1, oT, hz, hT, hlo⟩
  · exact .inl ⟨e, ⟨f1, k _ _ (Nat.ne_of_lt L.z) hz⟩, x, y, k _ _ (Nat.ne_of_lt L.TO) hT⟩
  · exact .inr ⟨T, f1, oT, k _ _ (Nat.ne_of_lt L.z) hz, k _ _ (Nat.ne_of_gt hlo) hT, hlo⟩
section
variable {prog : Program} {w : World} {A : Around} {E : Value → Shared → Prop} {s : Shared} {R : Result → Shared → Prop} {ps qs : Array Value} {z TI TO i1 i2 a b S : Addr} {i : Nat}
theorem zl_item {Q : Option Value → Shared → Prop} (hh : A.handled = none) (D : ZipSep2 z TI TO i1 i2 [i1, a] [i2, b]) (L : Low z TI TO i1 i2 a b S) (hl : qs.size = ps.size) (hi : i < ps.size) (hS : S < s.heap.objs.size) (st : ZL ps qs z TI TO i1 i2 a b S i s.heap)
    (hQ : ∀ x y h' tk, ps[i]? = some x → qs[i]? = some y → ZL ps qs z TI TO i1 i2 a b S (i + 1) h' → IsTupOf2 h' s.heap.objs.size x y → (∀ c o, c ≠ z → c ≠ TO → c ≠ i1 → c ≠ i2 → s.heap.get? c = some o → h'.get? c = some o) →
      Q (some (.ref s.heap.objs.size)) { s with heap := h', toks := tk }) : wpAny (model prog w) A (pyNext (.ref z)) Q E s := by
  obtain ⟨h1, h2, h3, h4⟩ := st
  have D1 : Draws prog w A.in1 i1 [i1, a] ps.size (fun i v => ps[i]? = some v) (fun i h => h.IsTupleIter i1 a i ∧ h.IsTuple a ps) := Draws.tuple (A := A.in1) hh i1 a L.a1 ps
  have D2 : Draws prog w A.in1 i2 [i2, b] ps.size (fun i v => qs[i]? = some v) (fun i h => h.IsTupleIter i2 b i ∧ h.IsTuple b qs) := hl ▸ Draws.tuple (A := A.in1) hh i2 b L.b2 qs
  rcases h4 with ⟨e, ⟨f1, hz⟩, x0, y0, hTO⟩ | ⟨T, f1, oT, hz, hT, hlo⟩
  · refine next_zs D D1 D2 hz h1 hTO h2 h3 hi fun x1 x2 h' tk y1 y2 z' TO' h1' h2' hT hsz hk => ?_
    exact hQ x1 x2 h' tk y1 y2 ⟨hk _ _ D.TIz D.TITO D.TIi1 D.TIi2 h1, h1', h2', .inr ⟨_, _, _, z', hT, hS⟩⟩ hT hk
  · refine next2_zs D D1 D2 hz hT h1 h2 h3 hi fun x1 x2 h' tk y1 y2 z' h1' h2' hT' hsz hk => ?_
    have nT : ∀ c, c < S → T ≠ c := fun c hc => Nat.ne_of_gt (Nat.lt_trans hc hlo)
    exact hQ x1 x2 h' tk y1 y2 ⟨hk _ _ D.TIz D.TIi1 D.TIi2 h1, h1', h2', .inr ⟨T, _, oT, z', hk T oT (nT _ L.z) (nT _ L.j1) (nT _ L.j2) hT, hlo⟩⟩ hT' fun c o c1 _ c3 c4 q => hk c o c1 c3 c4 q
theorem zl_done {Q : Option Value → Shared → Prop} (hh : A.handled = none) (D : ZipSep2 z TI TO i1 i2 [i1, a] [i2, b]) (L : Low z TI TO i1 i2 a b S) (hl : qs.size = ps.size) (st : ZL ps qs z TI TO i1 i2 a b S ps.size s.heap)
    (hQ : ∀ h', (∀ c o, c ≠ z → c ≠ i1 → c ≠ i2 → s.heap.get? c = some o → h'.get? c = some o) → Q none { s with heap := h' }) : wpAny (model prog w) A (pyNext (.ref z)) Q E s := by
  obtain ⟨h1, h2, h3, h4⟩ := st
  have D1 : Draws prog w A.in1 i1 [i1, a] ps.size (fun i v => ps[i]? = some v) (fun i h => h.IsTupleIter i1 a i ∧ h.IsTuple a ps) := Draws.tuple (A := A.in1) hh i1 a L.a1 ps
  have D2 : Draws prog w A.in1 i2 [i2, b] ps.size (fun i v => qs[i]? = some v) (fun i h => h.IsTupleIter i2 b i ∧ h.IsTuple b qs) := hl ▸ Draws.tuple (A := A.in1) hh i2 b L.b2 qs
  rcases h4 with ⟨e, ⟨f1, hz⟩, x0, y0, hTO⟩ | ⟨T, f1, oT, hz, hT, hlo⟩
  · exact stop_zs hh D D1 D2 hz h1 hTO h2 h3 hQ
  · exact stop2_zs hh D D1 D2 hz hT h1 h2 h3 hQ
theorem zl_loop (hh : A.handled = none) (D : ZipSep2 z TI TO i1 i2 [i1, a] [i2, b]) (L : Low z TI TO i1 i2 a b S) (hl : qs.size = ps.size) (hn : ps.size ≤ sizeLine) (res : Value) {h₁ : Heap}
    (hR : ∀ h' tk acc c as, (∀ b o, b ≠ S → b ≠ z → b ≠ TO → b ≠ i1 → b ≠ i2 → h₁.get? b = some o → h'.get? b = some o) → h'.get? S = some { cls := .type "list", dict := none, data := .seq acc c, slots := #[] } → as.length = ps.size → ZG ps qs S h' as →
      acc.toList = as.map Value.ref → R (.ok (.ret res)) { s with heap := h', toks := tk }) :
    ∀ (k i : Nat) (h : Heap) (tk c : Nat) (acc : Array Value) (as : List Addr), ps.size - i = k → i ≤ ps.size → ZL ps qs z TI TO i1 i2 a b S i h → (∀ b o, b ≠ S → b ≠ z → b ≠ TO → b ≠ i1 → b ≠ i2 → h₁.get? b = some o → h.get? b = some o) →
      h.get? S = some { cls := .type "list", dict := none, data := .seq acc c, slots := #[] } → acc.toList = as.map Value.ref → as.length = i → ZG ps qs S h as →
      codeAny (model prog w) A (.builtin "list.extend.loop" ⟨[.ref S, .ref z, res], []⟩) R { s with heap := h, toks := tk } := by
  intro k
  have nz := Nat.ne_of_gt L.z
  have n1 := Nat.ne_of_gt L.j1
  have n2 := Nat.ne_of_gt L.j2
  have nO := Nat.ne_of_gt L.TO
  induction k with
  | zero =>
    intro i h tk c acc as hk hi hst hkeep hS hacc hal hG
    have hin : i = ps.size := by omega
    subst hin
    refine codeAny_builtin PySem.F.entry_extend_loop ?_
    rw [Around.under_plainId PySem.F.plain_extend_loop _]
    show wpAny _ A.in1 (pyNext (.ref z) >>= _) _ _ _
    refine wpAny_bind (zl_done (s := { s with heap := h, toks := tk }) (A := A.in1) hh D L hl hst fun h' he => ?_)
    refine wpAny_pure (hR h' tk acc c as (fun b o h1 h2 h3 h4 h5 e => he b o h2 h4 h5 (hkeep b o h1 h2 h3 h4 h5 e)) (he S _ nz n1 n2 hS) (by omega) ⟨hG.rise, hG.above, fun j a hj => ?_⟩ hacc)
    obtain ⟨x, y, e1, e2, e3⟩ := hG.pairs j a hj
    have ha := hG.above a (List.mem_of_getElem? hj)
    have ne : ∀ c, c < S → a ≠ c := fun c hc => Nat.ne_of_gt (Nat.lt_trans hc ha)
    exact ⟨x, y, e1, e2, he a _ (ne _ L.z) (ne _ L.j1) (ne _ L.j2) e3⟩
  | succ k ih =>
    intro i h tk c acc as hk hi hst hkeep hS hacc hal hG
    have hlt : i < ps.size := by omega
    have hsz : acc.size = i := by rw [← Array.length_toList, hacc, List.length_map, hal]
    refine codeAny_builtin PySem.F.entry_extend_loop ?_
    rw [Around.under_plainId PySem.F.plain_extend_loop _]
    show wpAny _ A.in1 (pyNext (.ref z) >>= _) _ _ _
    have hSl : S < h.objs.size := Heap.lt_size hS
    refine wpAny_bind (zl_item (s := { s with heap := h, toks := tk }) (A := A.in1) hh D L hl hlt hSl hst fun x y h' tk' hx hy hst' ht hkp => ?_)
    dsimp only at ht hkp ⊢
    have hS' := hkp S _ nz nO n1 n2 hS
    have up : ∀ b o, b ≠ S → h'.get? b = some o → (h'.update S (Obj.mapSeq (·.push (Value.ref h.objs.size)))).get? b = some o := fun b o hb e => (Heap.get?_update_other _ _ (Ne.symm hb)).trans e
    show wpAny _ A.in1 (updateSeq S (·.push (Value.ref h.objs.size)) >>= _) _ _ _
    refine wpAny_bind ?_
    refine wpAny_updateSeq hS' rfl (wpAny_pure ⟨plainId_quiet PySem.F.plain_extend_loop _, ih (i + 1) _ tk' _ (acc.push (Value.ref h.objs.size)) (as ++ [h.objs.size]) (by omega) hlt (hst'.keep L up)
      (fun b o h1 h2 h3 h4 h5 e => up b o h1 (hkp b o h2 h3 h4 h5 (hkeep b o h1 h2 h3 h4 h5 e))) (Heap.get?_update_self _ hS' rfl) (by rw [Array.toList_push, hacc, List.map_append]; rfl) (by rw [List.length_append, hal]; rfl) ⟨?_, ?_, ?_⟩⟩) (by rw [hsz]; omega) (by show (acc.push (Value.ref h.objs.size)).size ≤ sizeLine + 1; rw [Array.size_push, hsz]; omega)
    · refine List.pairwise_append.mpr ⟨hG.rise, List.pairwise_singleton _ _, fun a ha b hb => ?_⟩
      rw [List.mem_singleton.mp hb]
      obtain ⟨j, hj⟩ := List.mem_iff_getElem?.mp ha
      obtain ⟨_, _, _, _, e⟩ := hG.pairs j a hj
      exact Heap.lt_size e
    · intro a ha
      rcases List.mem_append.mp ha with ha | ha
      · exact hG.above a ha
      · rw [List.mem_singleton.mp ha]; exact hSl
    · intro j b hj
      rcases Nat.lt_trichotomy j as.length with q1 | q1 | q1
      · rw [List.getElem?_append_left q1] at hj
        obtain ⟨x', y', e1, e2, e3⟩ := hG.pairs j b hj
        have hb := hG.above b (List.mem_of_getElem? hj)
        have ne : ∀ c, c < S → b ≠ c := fun c hc => Nat.ne_of_gt (Nat.lt_trans hc hb)
        exact ⟨x', y', e1, e2, up b _ (Nat.ne_of_gt hb) (hkp b _ (ne _ L.z) (ne _ L.TO) (ne _ L.j1) (ne _ L.j2) e3)⟩
      · subst q1
        have hb : h.objs.size = b := by simpa using hj
        subst hb
        exact ⟨x, y, by rw [hal]; exact hx, by rw [hal]; exact hy, up _ _ (Nat.ne_of_gt hSl) ht⟩
      · have hnone : (as ++ [h.objs.size])[j]? = none := List.getElem?_eq_none (by rw [List.length_append, List.length_singleton]; omega)
        rw [hnone] at hj; cases hj
theorem zl_extend (hh : A.handled = none) (D : ZipSep2 z TI TO i1 i2 [i1, a] [i2, b]) (L : Low z TI TO i1 i2 a b S) (hl : qs.size = ps.size) (hn : ps.size ≤ sizeLine) (res : Value) (c₀ : Nat) (hS : s.heap.get? S = some { cls := .type "list", data := .seq #[] c₀ }) (st : ZL ps qs z TI TO i1 i2 a b S 0 s.heap)
    (hR : ∀ h' tk acc c as, (∀ b o, b ≠ S → b ≠ z → b ≠ TO → b ≠ i1 → b ≠ i2 → s.heap.get? b = some o → h'.get? b = some o) → h'.get? S = some { cls := .type "list", dict := none, data := .seq acc c, slots := #[] } → as.length = ps.size → ZG ps qs S h' as →
      acc.toList = as.map Value.ref → R (.ok (.ret res)) { s with heap := h', toks := tk }) :
    wpAny (model prog w) A.in1 (Builtin.List.listExtendWith (.ref S) (.ref z) res)
      (fun fin s' => match fin with | .done f => R (.ok f) s' | .again c' => c'.quiet = true ∧ codeAny (model prog w) A c' R s') (fun e s' => R (.error e) s') s := by
  have hzT : s.TypeIs (.ref z) "zip" := by
    rcases st.2.2.2 with ⟨_, ⟨f1, hz⟩, _⟩ | ⟨T, f1, oT, hz, _⟩
    · exact ⟨_, hz, rfl⟩
    · exact ⟨_, hz, rfl⟩
  have key : ∀ (h : Heap) (c₁ tk : Nat), (∀ b o, b ≠ S → s.heap.get? b = some o → h.get? b = some o) →
      h.get? S = some { cls := .type "list", data := .seq #[] c₁ } → codeAny (model prog w) A (.builtin "list.extend.loop" ⟨[.ref S, .ref z, res], []⟩) R { s with heap := h, toks := tk } := by
    intro h c₁ tk hk hS₁
    exact zl_loop (s := s) (h₁ := s.heap) hh D L hl hn res hR ps.size 0 h tk c₁ #[] [] (Nat.sub_zero _) (Nat.zero_le _) (st.keep L hk) (fun b o hb _ _ _ _ e => hk b o hb e) hS₁ rfl rfl
      ⟨List.Pairwise.nil, (fun _ ha => nomatch ha), (fun j a hj => by simp at hj)⟩
  unfold Builtin.List.listExtendWith
  refine wpAny_bind (wpAny_typeOf (T := "zip") hzT ?_)
  have h1 : Builtin.List.listSameRef (.ref S) (.ref z) = false := by simp [Builtin.List.listSameRef, Nat.ne_of_gt L.z]
  have h2 : (Value.type "zip" == Value.type "list") = false := by decide
  have h3 : (Value.type "zip" == Value.type "tuple") = false := by decide
  simp only [h1, h2, h3, Bool.or_false, Bool.false_eq_true, if_false]
  refine wpAny_bind ?_
  have it : ∀ {A' : Around} {E' : Value → Shared → Prop} {Q : Value → Shared → Prop}, Q (.ref z) s → wpAny (model prog w) A' (pyIter (.ref z)) Q E' s := fun q => by
    rcases st.2.2.2 with ⟨_, ⟨f1, hz⟩, _⟩ | ⟨T, f1, oT, hz, _⟩
    · exact iter_zs hz q
    · exact iter_zs hz q
  refine it ?_
  refine wpAny_bind (wpAny_holding ?_)
  unfold Builtin.List.listLengthHint
  refine wpAny_bind (wpAny_specialOf hzT zip_no_len ?_)
  show wpAny _ A.in1 (specialOf (Value.ref z) (Str.ofString "__length_hint__") >>= _) _ _ _
  refine wpAny_bind (wpAny_specialOf hzT zip_no_hint ?_)
  refine wpAny_pure ?_
  show wpAny _ A.in1 (rule "list.extend.makes-room" >>= fun _ => Builtin.List.listTouch (.ref S) >>= fun _ =>
    again (.builtin "list.extend.loop" ⟨[.ref S, .ref z, res], []⟩)) _ _ _
  refine wpAny_bind (wpAny_rule ?_)
  refine wpAny_bind ?_
  show wpAny _ A.in1 (updateSeq S (·.push .none) >>= fun _ => updateSeq S (·.pop)) _ _ _
  refine wpAny_bind (wpAny_updateSeq hS rfl ?_)
  have hS₂ := Heap.get?_update_self (Obj.mapSeq (·.push Value.none)) hS rfl
  refine wpAny_updateSeq (hz := by seq_fits) hS₂ rfl ?_
  have hS₃ := Heap.get?_update_self (Obj.mapSeq (·.pop)) hS₂ rfl
  refine wpAny_pure ⟨plainId_quiet PySem.F.plain_extend_loop _, key _ _ _ (fun b o hb e => ?_) hS₃⟩
  exact (Heap.get?_update_other _ _ (Ne.symm hb)).trans ((Heap.get?_update_other _ _ (Ne.symm hb)).trans e)
theorem zl_init (hh : A.handled = none) (D : ZipSep2 z TI TO i1 i2 [i1, a] [i2, b]) (L : Low z TI TO i1 i2 a b S) (hl : qs.size = ps.size) (hn : ps.size ≤ sizeLine) (hS : s.heap.get? S = some { cls := .type "list", data := .seq #[] }) (st : ZL ps qs z TI TO i1 i2 a b S 0 s.heap)
    (hR : ∀ h' tk acc c as, (∀ b o, b ≠ S → b ≠ z → b ≠ TO → b ≠ i1 → b ≠ i2 → s.heap.get? b = some o → h'.get? b = some o) → h'.get? S = some { cls := .type "list", dict := none, data := .seq acc c, slots := #[] } → as.length = ps.size → ZG ps qs S h' as →
      acc.toList = as.map Value.ref → R (.ok (.ret .none)) { s with heap := h', toks := tk }) :
    wpAny (model prog w) A.in1 (Builtin.«list.__init__» ⟨[.ref S, .ref z], []⟩)
      (fun fin s' => match fin with | .done f => R (.ok f) s' | .again c' => c'.quiet = true ∧ codeAny (model prog w) A c' R s') (fun e s' => R (.error e) s') s := by
  show wpAny _ _ (do let old ← Builtin.List.listItems (.ref S); Builtin.List.listUpdate (.ref S) (fun _ => #[]); letGo old.toList.reverse; Builtin.List.listExtendWith (.ref S) (.ref z) .none) _ _ s
  refine wpAny_bind ?_
  unfold Builtin.List.listItems
  refine wpAny_bind (wpAny_seqItems hS rfl (wpAny_pure ?_))
  show wpAny _ _ (updateSeq S (fun _ => #[]) >>= fun _ => letGo (#[] : Array Value).toList.reverse >>= fun _ => Builtin.List.listExtendWith (.ref S) (.ref z) .none) _ _ s
  refine wpAny_bind (wpAny_updateSeq hS rfl ?_)
  have hS₂ := Heap.get?_update_self (Obj.mapSeq (fun _ => (#[] : Array Value))) hS rfl
  have oth : ∀ b o, b ≠ S → s.heap.get? b = some o → (s.heap.update S (Obj.mapSeq (fun _ => (#[] : Array Value)))).get? b = some o :=
    fun b o hb e => (Heap.get?_update_other _ _ (Ne.symm hb)).trans e
  refine wpAny_bind (wpAny_letGo ?_)
  refine zl_extend (s := { s with heap := s.heap.update S (Obj.mapSeq (fun _ => (#[] : Array Value))) }) hh D L hl hn .none _ hS₂ (st.keep L oth) fun h' tk acc c as hk hS' hl' hG hacc => ?_
  exact hR h' tk acc c as (fun b o h1 h2 h3 h4 h5 e => hk b o h1 h2 h3 h4 h5 (oth b o h1 e)) hS' hl' hG hacc
theorem zl_call {Q : Value → Shared → Prop} (hh : A.handled = none) (D : ZipSep2 z TI TO i1 i2 [i1, a] [i2, b]) (L : Low z TI TO i1 i2 a b s.heap.objs.size) (hl : qs.size = ps.size) (hn : ps.size ≤ sizeLine) (st : ZL ps qs z TI TO i1 i2 a b s.heap.objs.size 0 s.heap)
    (hQ : ∀ h' tk acc c as, (∀ b o, b ≠ z → b ≠ TO → b ≠ i1 → b ≠ i2 → s.heap.get? b = some o → h'.get? b = some o) → h'.get? s.heap.objs.size = some { cls := .type "list", dict := none, data := .seq acc c, slots := #[] } → as.length = ps.size → ZG ps qs s.heap.objs.size h' as →
      acc.toList = as.map Value.ref → Q (.ref s.heap.objs.size) { s with heap := h', toks := tk }) :
    wpAny (model prog w) A (call (.type "list") [.ref z]) Q E s := by
  refine callType_codes (Q₁ := fun obj s₁ => obj = .ref s.heap.objs.size ∧ s₁ = { s with heap := s.heap.push { cls := .type "list", data := .seq #[] } }) PySem.F.called_list (PySem.F.typeCall_list_1 _) PySem.F.entry_list_init
    (code_list_new _ ⟨rfl, rfl⟩) fun obj s₁ h₁ => ?_
  obtain ⟨rfl, rfl⟩ := h₁
  have hS : (s.heap.push { cls := .type "list", data := .seq #[] }).get? s.heap.objs.size = some { cls := .type "list", data := .seq #[] } := Heap.get?_push_size _ rfl
  refine ⟨⟨_, hS, rfl⟩, PySem.F.args_list_init_2 _ _, zl_init (A := A.in1) (s := { s with heap := s.heap.push { cls := .type "list", data := .seq #[] } }) hh D L hl hn hS (st.keep L fun c o _ e => Heap.get?_push_of_some _ e) fun h' tk acc c as hk hS' hl' hG hacc => ?_⟩
  exact ⟨rfl, hQ h' tk acc c as (fun b o h2 h3 h4 h5 e => hk b o (Nat.ne_of_lt (Heap.lt_size e)) h2 h3 h4 h5 (Heap.get?_push_of_some _ e)) hS' hl' hG hacc⟩
end
end Z

namespace N
open PySem L2 LamX
/-- the pairs tracked at their addresses -/
def putP : Hp → List Addr → List V → List V → Hp
  | H, a :: as, x :: xs, y :: ys => putP (upd H a (.tup [x, y])) as xs ys
  | H, _, _, _ => H
theorem putP_off {b : Addr} : ∀ (as : List Addr) (xs ys : List V) (H : Hp), b ∉ as → putP H as xs ys b = H b
  | [], xs, ys, _, _ => by cases xs <;> cases ys <;> rfl
  | _ :: _, [], _, _, _ => rfl
  | _ :: _, _ :: _, [], _, _ => rfl
  | a :: as, x :: xs, y :: ys, H, h => by
    show putP (upd H a (.tup [x, y])) as xs ys b = H b
    rw [putP_off as xs ys _ (fun z => h (List.mem_cons_of_mem _ z)), upd_ne (fun z => h (by rw [z]; exact List.mem_cons_self))]
theorem putP_at : ∀ (as : List Addr) (xs ys : List V) (H : Hp), as.length = xs.length → as.length = ys.length → as.Nodup → ∀ (j : Nat) (t : Addr), as[j]? = some t → ∃ x y, xs[j]? = some x ∧ ys[j]? = some y ∧ putP H as xs ys t = some (.tup [x, y])
  | [], _, _, _, _, _, _, _, _, h => by simp at h
  | _ :: _, [], _, _, h, _, _, _, _, _ => by cases h
  | _ :: _, _ :: _, [], _, _, h, _, _, _, _ => by cases h
  | a :: as, x :: xs, y :: ys, H, h1, h2, hn, 0, t, e => by
    have hn' := List.nodup_cons.mp hn
    simp at e
    subst e
    refine ⟨x, y, rfl, rfl, ?_⟩
    show putP (upd H a (.tup [x, y])) as xs ys a = _
    rw [putP_off as xs ys _ hn'.1, upd_same]
  | a :: as, x :: xs, y :: ys, H, h1, h2, hn, j + 1, t, e => by
    have hn' := List.nodup_cons.mp hn
    obtain ⟨x', y', q1, q2, q3⟩ := putP_at as xs ys (upd H a (.tup [x, y])) (Nat.succ.inj h1) (Nat.succ.inj h2) hn'.2 j t (by simpa using e)
    exact ⟨x', y', by simpa using q1, by simpa using q2, q3⟩
theorem refs_vals : ∀ as : List Addr, Vals (as.map V.ref) (as.map Value.ref)
  | [] => .nil
  | _ :: as => .cons rfl (refs_vals as)
section
variable {X : Cx}
theorem pairs_laid {pins : List (Addr × Obj)} {σ : L2.St} {H : Hp} {s : Shared} {h' : Heap} {tk : Nat} {xs ys : List V} {ps qs : List Value} {acc : Array Value} {c : Nat} {as : List Addr} {P : Addr} (I : Inv X pins σ H s) (hz : xs.length ≤ sizeLine) (hl2 : xs.length = ys.length) (r1 : Vals xs ps) (r2 : Vals ys qs)
    (hP : s.heap.objs.size ≤ P) (hk : ∀ b o, s.heap.get? b = some o → h'.get? b = some o) (hS : h'.get? P = some { cls := .type "list", dict := none, data := .seq acc c, slots := #[] }) (hl : as.length = xs.length) (hG : Z.ZG ps.toArray qs.toArray P h' as) (hacc : acc.toList = as.map Value.ref) :
    ∃ H' : Hp, (∀ b o, H b = some o → H' b = some o) ∧ H P = none ∧ H' P = some (.lst (as.map V.ref)) ∧ (∀ (j : Nat) (t : Addr), as[j]? = some t → ∃ x y, xs[j]? = some x ∧ ys[j]? = some y ∧ H' t = some (.tup [x, y])) ∧ Inv X pins σ H' { s with heap := h', toks := tk } := by
  have hSn : P ∉ as := fun z => Nat.lt_irrefl _ (hG.above _ z)
  have nd : as.Nodup := List.Pairwise.imp (fun {a b} (h : a < b) => Nat.ne_of_lt h) hG.rise
  have new : ∀ t ∈ as, H t = none := fun t ht => I.hok.fresh (Nat.le_trans hP (Nat.le_of_lt (hG.above t ht)))
  have newS : H P = none := I.hok.fresh hP
  have atP := putP_at as xs ys (upd H P (.lst (as.map V.ref))) hl (by omega) nd
  have off : ∀ b, b ∉ as → b ≠ P → putP (upd H P (.lst (as.map V.ref))) as xs ys b = H b := fun b h1 h2 => by rw [putP_off as xs ys _ h1, upd_ne h2]
  have low : ∀ b o, s.heap.get? b = some o → b ∉ as ∧ b ≠ P := fun b o e =>
    ⟨fun z => absurd (Heap.lt_size e) (Nat.not_lt.mpr (Nat.le_trans hP (Nat.le_of_lt (hG.above b z)))), Nat.ne_of_lt (Nat.lt_of_lt_of_le (Heap.lt_size e) hP)⟩
  have kp : ∀ b u, H b = some u → (putP (upd H P (.lst (as.map V.ref))) as xs ys) b = some u := fun b u e => by
    rw [off b (fun z => by rw [new b z] at e; cases e) (fun z => by rw [z, newS] at e; cases e)]
    exact e
  have eS : putP (upd H P (.lst (as.map V.ref))) as xs ys P = some (.lst (as.map V.ref)) := by rw [putP_off as xs ys _ hSn, upd_same]
  refine ⟨putP (upd H P (.lst (as.map V.ref))) as xs ys, kp, newS, eS, atP, ?_⟩
  refine I.call' (ch := []) rfl ⟨fun b o q _ _ _ => hk b o q, fun b o q _ _ _ => ⟨o.slots, hk b o q⟩, fun b o q n _ => ?_, fun b o q _ => ⟨o, hk b o q⟩, fun b xs q => kp b _ q, fun b o u q => kp b _ q, fun b ps q => ⟨#[], by rw [kp b _ q]; simp⟩⟩ (fun b u q => ?_) I.bare fun b z => by simp at z
  · obtain ⟨z1, z2⟩ := low b o q
    rw [off b z1 z2]
    exact n
  · by_cases hb : b ∈ as
    · obtain ⟨j, hj⟩ := List.mem_iff_getElem?.mp hb
      obtain ⟨x, y, e1, e2, e3⟩ := atP j b hj
      rw [e3] at q
      cases q
      obtain ⟨x', y', f1, f2, f3⟩ := hG.pairs j b hj
      obtain ⟨u1, g1, g2⟩ := r1.get e1
      obtain ⟨u2, g3, g4⟩ := r2.get e2
      have k1 : x' = u1 := by
        have : ps.toArray[j]? = some u1 := by simpa using g1
        rw [this] at f1
        exact (Option.some.inj f1).symm
      have k2 : y' = u2 := by
        have : qs.toArray[j]? = some u2 := by simpa using g3
        rw [this] at f2
        exact (Option.some.inj f2).symm
      subst k1 k2
      exact ⟨by show 2 ≤ sizeLine; decide, [x', y'], .cons g2 (.cons g4 .nil), ⟨_, f3, rfl, _, rfl⟩⟩
    · by_cases hb2 : b = P
      · rw [hb2] at q ⊢
        rw [eS] at q
        cases q
        refine ⟨by rw [List.length_map]; omega, acc.toList, c, by rw [hacc]; exact refs_vals as, ?_⟩
        rw [Array.toArray_toList]
        exact hS
      · rw [off b hb hb2] at q
        exact (I.hok b u q).stay (fun d v _ y => hk d v y) (fun d y => kp d _ y) fun d xs y => kp d _ y
variable {T : Tbl} {δ : Sl} {a b : Expr} {ds ds2 : List PyData}
theorem rpa_pairs {K : PySem.W.Frag} {S : Addr → Prop} {H' : Hp} : ∀ {as : List Addr} {xs ys : List V} {ds ds2 : List PyData}, as.length = xs.length → RpA K S H' xs ds → RpA K S H' ys ds2 → ds.length = ds2.length →
    (∀ (j : Nat) (t : Addr), as[j]? = some t → ∃ x y, xs[j]? = some x ∧ ys[j]? = some y ∧ H' t = some (.tup [x, y])) → RpA K S H' (as.map V.ref) (pairsD ds ds2)
  | [], [], _, _, _, _, .nil, _, _, _ => .nil
  | [], _ :: _, _, _, _, h, _, _, _, _ => by cases h
  | _ :: _, [], _, _, _, h, _, _, _, _ => by cases h
  | t :: as, x :: xs, _, _, _, h, .cons p ps, .nil, hl, _ => by cases hl
  | t :: as, x :: xs, _, _, _, h, .cons p ps, .cons q qs, hl, k => by
    refine .cons ?_ (rpa_pairs (Nat.succ.inj h) ps qs (Nat.succ.inj hl) fun j t' e => ?_)
    · obtain ⟨x', y', e1, e2, e3⟩ := k 0 t rfl
      cases e1
      cases e2
      exact .tup (SqT.of e3) (.cons p (.cons q .nil))
    · obtain ⟨x', y', e1, e2, e3⟩ := k (j + 1) t' (by simpa using e)
      exact ⟨x', y', by simpa using e1, by simpa using e2, e3⟩
theorem Rp.tup_inv {K : PySem.W.Frag} {S : Addr → Prop} {H : Hp} {v : V} (h : Rp K S H v (.tuple ds)) : ∃ a xs, v = .ref a ∧ SqT K H a xs ∧ RpA K S H xs ds := by
  cases h with
  | tup h r => exact ⟨_, _, rfl, h, r⟩
/-- list(zip(a, b, strict=True)) of two tuples of one length -/
theorem ev_listZs {p p2 kpos cpos pos pos2 : Pos} {j : Nat} (B : Bn X.mg) (h1 : Ev T X a δ (.d (.tuple ds))) (h2 : Ev T X b δ (.d (.tuple ds2))) (hl : ds.length = ds2.length) (hll : ds.length ≤ 1000000) (hc : X.calm = true := by rfl) (hg : Gl X "zip" := by rfl) (hg2 : Gl X "list" := by rfl)
    (hs : starEach [a, b] X.env = (false, eval a X.env) :: starEach [b] X.env := by rfl) (hs2 : starEach [b] X.env = (false, eval b X.env) :: starEach [] X.env := by rfl) :
    Ev T X (.Call (.Name "list" p2) [.Call (.Name "zip" p) [a, b] [⟨some "strict", .Constant (.bool true) j cpos, kpos⟩] pos] [] pos2) δ (.d (.list (pairsD ds ds2))) := by
  intro S σ H ad Q k pins s I
  refine wpAny_Call_Name_kw (ld_blt I hg2 B.list (show bootBuiltins "list" = some (.type "list") by decide +kernel) ?_)
  refine PyProof.Rows.callWith_type1 ?_ rfl rfl
  show wpAny _ _ (spliced ((false, eval (.Call (.Name "zip" p) [a, b] [⟨some "strict", .Constant (.bool true) j cpos, kpos⟩] pos) X.env) :: backTo pos2 (starEach [] X.env))) _ _ s
  refine Calls.spliced_cons ?_
  refine wpAny_Call_Name_kw (ld_blt I hg B.zip PyProof.Rows.boot_zip ?_)
  refine typeKw (thn ((pa_cons (pe_best X) (pa_cons (pe_best X) pa_nil hs2) hs).run pos pins s σ H (fun vs H1 => ∃ va vb, vs = [va, vb] ∧ Gr T H H1 ∧ Rp X.K S H1 va (.tuple ds) ∧ Rp X.K S H1 vb (.tuple ds2)) I ?_) fun us s1 ⟨vs, H1, I1, rr, q1⟩ => ?_) (by rw [hs]; rfl) (by rw [hs, hs2]; rfl) (by rfl) (by rfl)
  · exact h1 S σ H ad _ fun v H1 g r => h2 S σ H1 (ad.grow g) _ fun w H2 g2 r2 => ⟨v, w, rfl, g.trans g2, Rp.grow g2 r, r2⟩
  show wpAny _ _ (evalAll [(do let v ← eval (.Constant (.bool true) j cpos) X.env; standAt pos; pure v)]) _ _ s1
  refine wpAny_evalAll_cons (wpAny_bind ?_)
  refine thn (pe_bl.run pins s1 σ H1 (fun v H2 => v = .bl true ∧ H2 = H1) I1 ⟨rfl, rfl⟩) fun v s2 ⟨x, H2, I2, rb, e1, e2⟩ => ?_
  subst e1 e2
  cases rb
  refine wpAny_bind (wpAny_standAt (wpAny_pure (wpAny_evalAll_nil ?_)))
  obtain ⟨va, vb, ex, g, ra, rb⟩ := q1
  subst ex
  cases rr with
  | cons r rr =>
    cases rr with
    | cons r' rr =>
      cases rr
      obtain ⟨aa, xs, rfl, hqa, haa⟩ := ra.tup_inv
      obtain ⟨ab, ys, rfl, hqb, hbb⟩ := rb.tup_inv
      have r := r
      cases r
      cases r'
      obtain ⟨its, rv, p1, z1⟩ := I2.tuple hqa
      obtain ⟨its2, rv2, p2, z2⟩ := I2.tuple hqb
      obtain ⟨oa, hoa, _⟩ := id p1
      obtain ⟨ob, hob, _⟩ := id p2
      have la := Heap.lt_size hoa
      have lb := Heap.lt_size hob
      have l1 := haa.length
      have l2 := hbb.length
      have l3 := rv.length
      have l4 := rv2.length
      refine Z.call_zs (begins_tuple aa its.toArray) (begins_tuple ab its2.toArray) p1 p2 fun h' hz hTI hTO i1 i2 hsz hk => ?_
      have sep : ZipSep2 (s2.heap.objs.size + 4) (s2.heap.objs.size + 2) (s2.heap.objs.size + 3) s2.heap.objs.size (s2.heap.objs.size + 1) [s2.heap.objs.size, aa] [s2.heap.objs.size + 1, ab] :=
        zip_sep2 (fun c hc => by rw [List.mem_singleton.mp hc]; exact la) (fun c hc => by rw [List.mem_singleton.mp hc]; exact lb)
      refine Calls.spliced_nil ?_
      have hL : Z.Low (s2.heap.objs.size + 4) (s2.heap.objs.size + 2) (s2.heap.objs.size + 3) s2.heap.objs.size (s2.heap.objs.size + 1) aa ab h'.objs.size := by
        rw [hsz]
        exact ⟨Nat.add_lt_add_left (by decide) _, Nat.add_lt_add_left (by decide) _, Nat.add_lt_add_left (by decide) _, Nat.lt_add_of_pos_right (by decide), Nat.add_lt_add_left (by decide) _, Nat.lt_of_lt_of_le la (Nat.le_add_right _ _), Nat.lt_of_lt_of_le lb (Nat.le_add_right _ _), Nat.ne_of_lt la, Nat.ne_of_lt (Nat.lt_succ_of_lt lb)⟩
      refine Z.zl_call (s := { s2 with heap := h' }) (I2.ok.hd hc) sep hL (ps := its.toArray) (qs := its2.toArray) (by simp; omega) (by simp; exact Nat.le_trans (by omega) (small_of hll)) ⟨hTI, ⟨src_tup.first (K := X.K) _ _ _ i1, Heap.IsTuple.at (show s2.heap.IsTuple aa its.toArray from p1) fun o q => hk aa o q⟩, ⟨src_tup.first (K := X.K) _ _ _ i2, Heap.IsTuple.at (show s2.heap.IsTuple ab its2.toArray from p2) fun o q => hk ab o q⟩, .inl ⟨rfl, ⟨_, hz⟩, _, _, hTO⟩⟩ fun h'' tk acc c as hk2 hS hla hG hacc => ?_
      have hk3 : ∀ b o, s2.heap.get? b = some o → h''.get? b = some o := fun b o e => by
        have hb := Heap.lt_size e
        exact hk2 b o (Nat.ne_of_lt (Nat.lt_of_lt_of_le hb (Nat.le_add_right _ _))) (Nat.ne_of_lt (Nat.lt_of_lt_of_le hb (Nat.le_add_right _ _))) (Nat.ne_of_lt hb) (Nat.ne_of_lt (Nat.lt_of_lt_of_le hb (Nat.le_add_right _ _))) (hk b o e)
      obtain ⟨H', k1, k2, k3, k4, J⟩ := pairs_laid (tk := tk) (P := h'.objs.size) I2 z1 (by omega) rv rv2 (by rw [hsz]; exact Nat.le_add_right _ _) hk3 hS (by rw [hla]; simp; omega) hG hacc
      have gH : Gr T H2 H' := Gr.of k1
      refine ⟨.ref _, H', J, rfl, k _ H' (g.trans gH) ?_⟩
      refine Rp.lst (.inl ⟨(ad.sok.mono g).fresh k2, .inl k3⟩) ?_
      exact rpa_pairs (by rw [hla]; simp; omega) (haa.grow gH) (hbb.grow gH) hl k4
end
end N

namespace ZZ
open PySem PySem.Spec PyProof.Rows L2
section
variable {X : Cx}
theorem addI_ok {pins : List (Addr × Obj)} {σ : L2.St} {H : Hp} {s : Shared} {E : Value → Shared → Prop} {D : Addr} {M : Int → Bool} {n : Nat} {k : Int} {tk : Tok} {Q : Value → Shared → Prop} (I : Inv X pins σ H s) (hD : H D = some (SetO X.w D M n)) (room : n + 1 < scanBound)
    (h : ∀ s', Inv X pins σ (upd H D (SetO X.w D (fun j => M j || decide (j = k)) (if M k = true then n else n + 1))) s' → Q .none s') : wpAny (model X.prog X.w) X.A (call (.builtin "set.add") [.ref D, .int k tk]) Q E s := by
  refine setR_add (setO_get I hD) room fun h' sb new => ?_
  have he : ∃ u, h'.get? D = some u := by
    have ⟨o, _, _, _, ho, _⟩ := new
    exact ⟨o, ho⟩
  exact h _ (I.write (e := D) (t' := s.toks + 1) (by rw [hD]; trivial) (.inl rfl) (fun b u hb hu => (sb.2 b hb).trans hu) he (setO_new new))
end
theorem setTurn_out (elt t0 i0 t1 i1 : Expr) (ifs0 ifs1 : List Expr) (scope : Scope) (pos : Pos) (it acc : Value) (env : Env) :
    compTurn (.SetComp elt [⟨t0, i0, ifs0, 0⟩, ⟨t1, i1, ifs1, 0⟩] scope pos) 0 it acc env = (do
      standAt i0.pos
      match ← pyNext it with
      | none => pure (.done .next)
      | some v =>
        letOwnedTupleGo t0 it v
        assign t0 env v
        let mut ok := true
        for c in ifs0 do
          if ok then ok ← isTrue c env (eval c env)
        if ok then
          let x ← eval i1 env
          standAt i1.pos
          let x ← foldedSetIterable i1 env x
          let _ ← runOwn (.compStart (.SetComp elt [⟨t0, i0, ifs0, 0⟩, ⟨t1, i1, ifs1, 0⟩] scope pos) 1 (← holding [x] (pyIter x)) acc env) env
        again (.compLoop (.SetComp elt [⟨t0, i0, ifs0, 0⟩, ⟨t1, i1, ifs1, 0⟩] scope pos) 0 it acc env)) := by rfl
theorem setTurn_in (elt t0 i0 t1 i1 : Expr) (ifs0 ifs1 : List Expr) (scope : Scope) (pos : Pos) (it acc : Value) (env : Env) :
    compTurn (.SetComp elt [⟨t0, i0, ifs0, 0⟩, ⟨t1, i1, ifs1, 0⟩] scope pos) 1 it acc env = (do
      standAt i1.pos
      match ← pyNext it with
      | none => pure (.done .next)
      | some v =>
        letOwnedTupleGo t1 it v
        assign t1 env v
        let mut ok := true
        for c in ifs1 do
          if ok then ok ← isTrue c env (eval c env)
        if ok then
          (do let v ← eval elt env; standAt elt.pos; let _ ← call (.builtin "set.add") [acc, v])
        again (.compLoop (.SetComp elt [⟨t0, i0, ifs0, 0⟩, ⟨t1, i1, ifs1, 0⟩] scope pos) 1 it acc env)) := by rfl

section
variable {prog : Program} {w : World} {A : Around} {R : Result → Shared → Prop} {s : Shared} {elt t0 i0 t1 i1 : Expr} {ifs0 ifs1 : List Expr} {scope : Scope} {pos : Pos} {it acc : Value} {env : Env}
/-- the loop of the first clause -/
theorem setLoop_out (hs : ∀ x, foldedSetIterable i1 env x = pure x) (I : Nat → Shared → Prop)
    (turn : ∀ n s, I n s → wpAny (model prog w) A (pyNext it) (fun r s₁ => match r with
      | none => R (.ok .next) s₁
      | some v => wpAny (model prog w) A (letOwnedTupleGo t0 it v) (fun _ s₁' => wpAny (model prog w) A (assign t0 env v) (fun _ s₂ =>
          wpAny (model prog w) A (forIn ifs0 true fun c r => if r = true then do let ok ← isTrue c env (eval c env); pure (ForInStep.yield ok) else pure (ForInStep.yield r)) (fun ok s₃ =>
            if ok = true then wpAny (model prog w) A (eval i1 env) (fun x s₄ => wpAny (model prog w) A (pyIter x) (fun it1 s₅ =>
              codeAny (model prog w) A (.compStart (.SetComp elt [⟨t0, i0, ifs0, 0⟩, ⟨t1, i1, ifs1, 0⟩] scope pos) 1 it1 acc env) (fun r s' => match r with
                | .ok _ => ∃ m, m < n ∧ I m s'
                | .error _ => False) s₅) (notedBy (model prog w) A env fun e s' => R (.error e) s') s₄) (notedBy (model prog w) A env fun e s' => R (.error e) s') s₃
            else ∃ m, m < n ∧ I m s₃) (notedBy (model prog w) A env fun e s' => R (.error e) s') s₂) (notedBy (model prog w) A env fun e s' => R (.error e) s') s₁') (notedBy (model prog w) A env fun e s' => R (.error e) s') s₁) (notedBy (model prog w) A env fun e s' => R (.error e) s') s)
    (n : Nat) (h : I n s) :
    codeAny (model prog w) A (.compLoop (.SetComp elt [⟨t0, i0, ifs0, 0⟩, ⟨t1, i1, ifs1, 0⟩] scope pos) 0 it acc env) R s := by
  refine codeAny_loop rfl I (fun n s hI => ?_) n h
  show wpAny _ A ((compTurn (.SetComp elt [⟨t0, i0, ifs0, 0⟩, ⟨t1, i1, ifs1, 0⟩] scope pos) 0 it acc env).onRaise (fun x => do noteFrame x env; theTreesLotGoes x)) _ _ s
  refine wpAny_noted ?_
  rw [setTurn_out]
  refine wpAny_bind (wpAny_standAt (wpAny_bind (wpAny_mono (turn n s hI) (fun r s₁ h₁ => ?_) fun _ _ h' => h')))
  cases r with
  | none => exact wpAny_pure h₁
  | some v =>
    refine wpAny_bind (wpAny_mono h₁ (fun _ s₁' h₁' => ?_) fun _ _ h' => h')
    refine wpAny_bind (wpAny_mono h₁' (fun _ s₂ h₂ => wpAny_bind (wpAny_mono h₂ (fun ok s₃ h₃ => ?_) fun _ _ h' => h')) fun _ _ h' => h')
    cases ok with
    | false => exact wpAny_pure ⟨rfl, h₃⟩
    | true =>
      refine wpAny_bind (wpAny_mono h₃ (fun x s₄ h₄ => ?_) fun _ _ h' => h')
      refine wpAny_bind (wpAny_standAt (wpAny_bind (wpAny_of_eq (hs x) (wpAny_bind (wpAny_holding (wpAny_mono h₄ (fun it1 s₅ h₅ => ?_) fun _ _ h' => h'))))))
      refine wpAny_bind (wpAny_runOwn ?_)
      rw [Around.mark_none]
      refine codeAny_mono h₅ fun r s' hr => ?_
      cases r with
      | ok f =>
        first
          | exact wpAny_pure ⟨rfl, hr⟩
          | exact wpAny_bind (wpAny_pure (wpAny_pure ⟨rfl, hr⟩))
      | error e => exact hr.elim
/-- the loop of the second -/
theorem setLoop_in (I : Nat → Shared → Prop)
    (turn : ∀ n s, I n s → wpAny (model prog w) A (pyNext it) (fun r s₁ => match r with
      | none => R (.ok .next) s₁
      | some v => wpAny (model prog w) A (letOwnedTupleGo t1 it v) (fun _ s₁' => wpAny (model prog w) A (assign t1 env v) (fun _ s₂ =>
          wpAny (model prog w) A (forIn ifs1 true fun c r => if r = true then do let ok ← isTrue c env (eval c env); pure (ForInStep.yield ok) else pure (ForInStep.yield r)) (fun ok s₃ =>
            if ok = true then wpAny (model prog w) A (eval elt env) (fun x s₄ =>
              wpAny (model prog w) A (call (.builtin "set.add") [acc, x]) (fun _ s₅ => ∃ m, m < n ∧ I m s₅) (notedBy (model prog w) A env fun e s' => R (.error e) s') s₄) (notedBy (model prog w) A env fun e s' => R (.error e) s') s₃
            else ∃ m, m < n ∧ I m s₃) (notedBy (model prog w) A env fun e s' => R (.error e) s') s₂) (notedBy (model prog w) A env fun e s' => R (.error e) s') s₁') (notedBy (model prog w) A env fun e s' => R (.error e) s') s₁) (notedBy (model prog w) A env fun e s' => R (.error e) s') s)
    (n : Nat) (h : I n s) :
    codeAny (model prog w) A (.compLoop (.SetComp elt [⟨t0, i0, ifs0, 0⟩, ⟨t1, i1, ifs1, 0⟩] scope pos) 1 it acc env) R s := by
  refine codeAny_loop rfl I (fun n s hI => ?_) n h
  show wpAny _ A ((compTurn (.SetComp elt [⟨t0, i0, ifs0, 0⟩, ⟨t1, i1, ifs1, 0⟩] scope pos) 1 it acc env).onRaise (fun x => do noteFrame x env; theTreesLotGoes x)) _ _ s
  refine wpAny_noted ?_
  rw [setTurn_in]
  refine wpAny_bind (wpAny_standAt (wpAny_bind (wpAny_mono (turn n s hI) (fun r s₁ h₁ => ?_) fun _ _ h' => h')))
  cases r with
  | none => exact wpAny_pure h₁
  | some v =>
    refine wpAny_bind (wpAny_mono h₁ (fun _ s₁' h₁' => ?_) fun _ _ h' => h')
    refine wpAny_bind (wpAny_mono h₁' (fun _ s₂ h₂ => wpAny_bind (wpAny_mono h₂ (fun ok s₃ h₃ => ?_) fun _ _ h' => h')) fun _ _ h' => h')
    cases ok with
    | false => exact wpAny_pure ⟨rfl, h₃⟩
    | true =>
      exact wpAny_bind (wpAny_bind (wpAny_mono h₃ (fun x s₄ h₄ => wpAny_bind (wpAny_standAt (wpAny_bind (wpAny_mono h₄ (fun _ s₅ h₅ => wpAny_pure (wpAny_pure ⟨rfl, h₅⟩)) fun _ _ h' => h')))) fun _ _ h' => h'))
/-- the second clause's start -/
theorem setStart1 (h0 : codeAny (model prog w) A (.compLoop (.SetComp elt [⟨t0, i0, ifs0, 0⟩, ⟨t1, i1, ifs1, 0⟩] scope pos) 1 it acc env) R s)
    (h : wpAny (model prog w) A (pyIter it) (fun it' s' => codeAny (model prog w) A (.compLoop (.SetComp elt [⟨t0, i0, ifs0, 0⟩, ⟨t1, i1, ifs1, 0⟩] scope pos) 1 it' acc env) R s')
      (notedBy (model prog w) A env fun x s' => R (.error x) s') s) :
    codeAny (model prog w) A (.compStart (.SetComp elt [⟨t0, i0, ifs0, 0⟩, ⟨t1, i1, ifs1, 0⟩] scope pos) 1 it acc env) R s := by
  refine codeAny_of_tree ?_
  show wpAny _ _ ((compStart (.SetComp elt [⟨t0, i0, ifs0, 0⟩, ⟨t1, i1, ifs1, 0⟩] scope pos) 1 it acc env).onRaise (fun x => do noteFrame x env; standAt theWindowsPlace)) _ _ s
  refine wpAny_notedAt ?_
  unfold compStart
  show wpAny _ _ (ask >>= _) _ _ s
  refine wpAny_bind (wpAny_askSetting (wpAny_ite ?_))
  split
  · first
      | exact wpAny_bind (wpAny_pure (wpAny_pure (And.intro rfl h0)))
      | exact wpAny_pure (And.intro rfl h0)
  · first
      | exact wpAny_bind (wpAny_rule (wpAny_bind (wpAny_standAt (wpAny_bind (wpAny_mono h (fun it' s' h' => wpAny_pure (And.intro rfl h')) fun _ _ x => x)))))
      | (refine wpAny_bind (wpAny_rule ?_); show wpAny _ _ (standAt i1.pos >>= _) _ _ s; exact wpAny_bind (wpAny_standAt (wpAny_bind (wpAny_mono h (fun it' s' h' => wpAny_pure (And.intro rfl h')) fun _ _ x => x))))
end

section
variable {X : Cx}
/-- [elt for tg in iter if .. for tg1 in iter1 if ..]: behind the first clause's store and tests the second source's own loop, from which Nx is reached. vs: the block's names; vs1: those of the second target -/
def tSc2 (w : World) (wi : TI) (g : TG) (tt : TT) (wi1 : TI) (g1 : TG) (tt1 : TT) (te : TE) (vs vs1 : List Nat) : TE := fun σ H Q => wi σ H fun J H1 => ∀ D, H1 D = none → ∃ W : Nat → Nat → Hp → Prop, (∃ m, W 0 m (upd H1 D (SetO w D (fun _ => false) 0))) ∧ ∀ i m H, W i m H →
  (J.stop i H ∧ Q (.ref D) H) ∨ (J.go i H ∧ ∃ Nx : Hp → Prop, (∀ H', Nx H' → ∃ m', m' < m ∧ W (i + 1) m' H') ∧ ∀ x H', J.yld i H x H' → g x (wipe σ vs) H' fun σ2 H2 => wipe σ2 vs = wipe σ vs ∧ tt σ2 H2 fun b H3 =>
    if b = true then wi1 σ2 H3 fun J1 H4 => ∃ W1 : Nat → Nat → Hp → Prop, (∃ m, W1 0 m H4) ∧ ∀ j k H, W1 j k H →
      (J1.stop j H ∧ Nx H) ∨ (J1.go j H ∧ ∃ Nx1 : Hp → Prop, (∀ H', Nx1 H' → ∃ k', k' < k ∧ W1 (j + 1) k' H') ∧ ∀ x H', J1.yld j H x H' → g1 x (wipe σ2 vs1) H' fun σ3 H5 => wipe σ3 vs1 = wipe σ2 vs1 ∧ tt1 σ3 H5 fun b H6 =>
        if b = true then te σ3 H6 fun y H7 => ∃ (c : Int) (M : Int → Bool) (n : Nat), y = .int c ∧ H7 D = some (SetO w D M n) ∧ n + 1 < scanBound ∧ Nx1 (upd H7 D (SetO w D (fun j => M j || decide (j = c)) (if M c = true then n else n + 1))) else Nx1 H6)
    else Nx H3)
theorem sc2_core {pins : List (Addr × Obj)} {s : Shared} {σ : L2.St} {H : Hp} {Q : VK} {elt tg iter tg1 iter1 : Expr} {ifs ifs1 : List Expr} {scope : Scope} {own : List (Str × Nat)} {vs1 : List Nat} {pos pos' : Pos} {wi wi1 : TI} {g g1 : TG} {tt tt1 : TT} {te : TE} {use : Option (Value → Sem Unit)} {Qf : Value → Shared → Prop}
    (hc : X.calm = true) (hN : X.N.Nodup) (I : Inv X pins σ H s) (hi : PI X tg iter wi) (ok : BlkOk X.N X.env.scope scope own) (hv : ∀ i ∈ vs1, i ∈ own.map (·.2))
    (hg : ∀ (s : Shared) (H : Hp) (C : Addr) (cl : List (Str × Addr)) (fp : List Addr), PG (X.blk s H scope (compEnvC scope cl C X.env) fp) tg g) (ht : ∀ (s : Shared) (H : Hp) (C : Addr) (cl : List (Str × Addr)) (fp : List Addr), PTs (X.blk s H scope (compEnvC scope cl C X.env) fp) ifs tt)
    (he : ∀ (s : Shared) (H : Hp) (C : Addr) (cl : List (Str × Addr)) (fp : List Addr), PE (X.blk s H scope (compEnvC scope cl C X.env) fp) elt te) (hs : ∀ x, foldedSetIterable iter X.env x = pure x)
    (hi1 : ∀ (s : Shared) (H : Hp) (C : Addr) (cl : List (Str × Addr)) (fp : List Addr), PI (X.blk s H scope (compEnvC scope cl C X.env) fp) tg1 iter1 wi1)
    (hg1 : ∀ (s : Shared) (H : Hp) (C : Addr) (cl : List (Str × Addr)) (fp : List Addr), PG (X.blk s H scope (compEnvC scope cl C X.env) fp) tg1 g1)
    (ht1 : ∀ (s : Shared) (H : Hp) (C : Addr) (cl : List (Str × Addr)) (fp : List Addr), PTs (X.blk s H scope (compEnvC scope cl C X.env) fp) ifs1 tt1)
    (hs1 : ∀ env x, foldedSetIterable iter1 env x = pure x)
    (h : tSc2 X.w wi g tt wi1 g1 tt1 te (own.map (·.2)) vs1 σ H Q)
    (hRR : ∀ D C s' m H', Inv X pins σ H' s' → Q (.ref D) H' → s'.heap.Ns C m → FpOk X pins H' C → compPost (model X.prog X.w) X.A X.xe use Qf (.ref D) C (.ok .next) s') :
    wpAny (model X.prog X.w) X.A (comprehension (.SetComp elt [⟨tg, iter, ifs, 0⟩, ⟨tg1, iter1, ifs1, 0⟩] scope pos) scope X.env pos' (newSet (.type "set")) false (eval iter X.env) use) Qf X.xe s := by
  have hfree : ∀ y ∈ scope.names, y.2 = .free → ∃ c, X.env.cells.lookup y.1 = some c := fun y hy e => by
    rcases ok.free y hy e with k | k
    · exact I.ok.has _ (.inl k)
    · exact I.ok.has _ (.inr k)
  refine wpAny_comprehension_free (use := use) rfl hs (closure_ok hfree) ok.kind (fun y hy e => by rw [ok.uniq y hy, e])
    (thn (hi.run pins s σ H _ I h) fun xv s1 hx => thn hx fun itv s2 h2 => ?_)
  obtain ⟨it, fp, tn, J, H2, e, I2, T, st2, f2, q⟩ := h2
  subst e
  refine PpSet.newSet_ok (newEnv_comp ?_)
  generalize hD : s2.heap.objs.size = D
  have hDn : H2 D = none := I2.hok.fresh (Nat.le_of_eq hD)
  obtain ⟨W, ⟨m0, w0⟩, turn⟩ := q D hDn
  -- the new list
  generalize hs3 : ({ s2 with heap := s2.heap.push { cls := .type "set", dict := none, data := .set #[] 0 (.fresh 0 0 (!X.w.params.followText "set-order")) } } : Shared) = s3
  have I3 : Inv X pins σ (upd H2 D (SetO X.w D (fun _ => false) 0)) s3 := by
    rw [← hs3]
    refine I2.laid (t' := s2.toks) (fun b o e => Heap.get?_push_of_some _ e) (Nat.le_of_eq hD) ?_
    rw [← hD]
    exact setO_new (setR_fresh X.w)
  have h3 : s3.heap = s2.heap.push { cls := .type "set", dict := none, data := .set #[] 0 (.fresh 0 0 (!X.w.params.followText "set-order")) } := by rw [← hs3]
  have sz : ∀ b ∈ fp, b < s2.heap.objs.size := fun b hb => by
    obtain ⟨o, e, _⟩ := T.obj _ _ st2 b hb
    exact Heap.lt_size e
  have f3 : ∀ b ∈ fp, FpOk X pins (upd H2 D (SetO X.w D (fun _ => false) 0)) b ∧ b < s3.heap.objs.size := fun b hb => by
    have hlt := sz b hb
    refine ⟨⟨?_, (f2 b hb).2⟩, by rw [h3, Heap.size_push]; exact Nat.lt_succ_of_lt hlt⟩
    rw [upd_ne (by rw [← hD]; exact Nat.ne_of_lt hlt)]
    exact (f2 b hb).1
  have st3 : tn 0 s3.heap := T.keep _ _ _ st2 fun b _ o e => by rw [h3]; exact Heap.get?_push_of_some _ e
  have I4 := block_start I3 ok hN f3
  have pg := hg s3 (upd H2 D (SetO X.w D (fun _ => false) 0)) s3.heap.objs.size (cellsFrom (s3.heap.objs.size + 1) scope.names (cloFrom X.env.cells scope.names [])) fp
  have pt := ht s3 (upd H2 D (SetO X.w D (fun _ => false) 0)) s3.heap.objs.size (cellsFrom (s3.heap.objs.size + 1) scope.names (cloFrom X.env.cells scope.names [])) fp
  have pe := he s3 (upd H2 D (SetO X.w D (fun _ => false) 0)) s3.heap.objs.size (cellsFrom (s3.heap.objs.size + 1) scope.names (cloFrom X.env.cells scope.names [])) fp
  have pi1 := hi1 s3 (upd H2 D (SetO X.w D (fun _ => false) 0)) s3.heap.objs.size (cellsFrom (s3.heap.objs.size + 1) scope.names (cloFrom X.env.cells scope.names [])) fp
  have pg1 := hg1 s3 (upd H2 D (SetO X.w D (fun _ => false) 0)) s3.heap.objs.size (cellsFrom (s3.heap.objs.size + 1) scope.names (cloFrom X.env.cells scope.names [])) fp
  have pt1 := ht1 s3 (upd H2 D (SetO X.w D (fun _ => false) 0)) s3.heap.objs.size (cellsFrom (s3.heap.objs.size + 1) scope.names (cloFrom X.env.cells scope.names [])) fp
  show codeAny _ _ (.compStart (.SetComp elt [⟨tg, iter, ifs, 0⟩, ⟨tg1, iter1, ifs1, 0⟩] scope pos) 0 (.ref it) (.ref D) (compEnvC scope (cellsFrom (s3.heap.objs.size + 1) scope.names (cloFrom X.env.cells scope.names [])) s3.heap.objs.size X.env)) (compPost (model X.prog X.w) X.A X.xe use Qf (.ref D) s3.heap.objs.size) { s3 with heap := pushCells (s3.heap.push { cls := .type "dict", data := .dict #[] }) scope.names }
  have nfp : ∀ b ∈ fp, (upd H2 D (SetO X.w D (fun _ => false) 0)) b = none := fun b hb => (f3 b hb).1.1
  generalize hce : compEnvC scope (cellsFrom (s3.heap.objs.size + 1) scope.names (cloFrom X.env.cells scope.names [])) s3.heap.objs.size X.env = ce at I4 pg pt pe pi1 pg1 pt1 ⊢
  have cL : ce.locals = s3.heap.objs.size := by subst hce; rfl
  generalize hH3 : upd H2 D (SetO X.w D (fun _ => false) 0) = H3 at I3 I4 pg pt pe pi1 pg1 pt1 w0 nfp f3
  generalize hs4 : ({ s3 with heap := pushCells (s3.heap.push { cls := .type "dict", data := .dict #[] }) scope.names } : Shared) = s4 at I4 ⊢
  have st4 : tn 0 s4.heap := T.keep _ _ _ st3 fun b _ o e => by rw [← hs4]; exact pushCells_keeps _ _ _ _ (Heap.get?_push_of_some _ e)
  have stat : ∀ {σ' : L2.St} {H' : Hp} {s' : Shared}, Inv (X.blk s3 H3 scope ce fp) [] σ' H' s' → (∀ b ∈ fp, H' b = none) → ∀ b ∈ fp, FpOk (X.blk s3 H3 scope ce fp) [] H' b := fun {σ' H' s'} I' hn b hb =>
    ⟨hn b hb, (I'.ok.exf b hb).1, I'.ok.exfs b hb, .inl hb, fun x c e => (I'.ok.exf b hb).2 x c e, fun p hp => absurd (show p ∈ ([] : List (Addr × Obj)) ++ [] from hp) (by simp)⟩
  have loop : codeAny (model X.prog X.w) X.A (.compLoop (.SetComp elt [⟨tg, iter, ifs, 0⟩, ⟨tg1, iter1, ifs1, 0⟩] scope pos) 0 (.ref it) (.ref D) ce) (compPost (model X.prog X.w) X.A X.xe use Qf (.ref D) s3.heap.objs.size) s4 := by
    refine setLoop_out (hs1 ce) (fun n s' => ∃ i H', Inv (X.blk s3 H3 scope ce fp) [] (wipe σ (own.map (·.2))) H' s' ∧ tn i s'.heap ∧ (∀ b ∈ fp, H' b = none) ∧ W i n H') ?_ m0 ⟨0, H3, I4, st4, nfp, w0⟩
    rintro n s5 ⟨i, H5, I5, st5, n5, w5⟩
    rcases turn i n H5 w5 with ⟨stop, qq⟩ | ⟨go, Nx, hNx, step⟩
    · have td := T.done (X.blk s3 H3 scope ce fp) rfl rfl rfl hc i [] s5 _ H5 (fun _ _ => False) I5 (stat I5 n5) st5 stop
      refine thnF td fun r s6 ⟨hr, I6⟩ => ?_
      subst hr
      -- back in the def's context
      have I7 : Inv X pins σ H5 s6 := I3.call' (ch := fp) I6.os I6.base I6.hok I6.bare fun b hb => ⟨(f3 b hb).1.2.2.2.1, (f3 b hb).1.2.1, (f3 b hb).1.2.2.2.2.1, (f3 b hb).1.2.2.2.2.2⟩
      have nC : H5 s3.heap.objs.size = none := by
        have z : H5 ce.locals = none := I6.free
        rw [cL] at z
        exact z
      obtain ⟨m, hn, _⟩ := I6.loc
      have hn : s6.heap.Ns ce.locals m := hn
      rw [cL] at hn
      exact hRR D s3.heap.objs.size s6 m H5 I7 qq hn (I3.fpOk (Nat.le_refl _) nC)
    · have ti := T.item (X.blk s3 H3 scope ce fp) rfl rfl rfl hc i [] s5 _ H5 (fun _ _ => False) I5 (stat I5 n5) st5 go
      refine thnF ti fun r s6 ⟨u, hr, h6⟩ => ?_
      subst hr
      refine thnF h6 fun _ s7 ⟨x, H7, I7, r7, y7, st7, n7⟩ => ?_
      have I7' := I7.pinned (stat I7 n7) (T.obj _ _ st7)
      refine thnF (pg.run _ s7 _ H7 x u _ I7' r7 (step x H7 y7)) fun _ s8 ⟨σ8, H8, I8, hw8, q8⟩ => ?_
      refine thnF (pt.run _ s8 σ8 H8 _ I8 q8) fun b s9 ⟨H9, I9, q9⟩ => ?_
      -- the turn's end, from any slots that know what the block knew at its start
      have fin : ∀ {σ9 : L2.St} {s' : Shared} {H' : Hp}, Inv (X.blk s3 H3 scope ce fp) ([] ++ pinsAt fp s7.heap) σ9 H' s' → (wipe σ (own.map (·.2))).length = σ9.length → (∀ (j : Nat) v, (wipe σ (own.map (·.2)))[j]? = some (some v) → σ9[j]? = some (some v)) → Nx H' →
          ∃ m, m < n ∧ ∃ i H', Inv (X.blk s3 H3 scope ce fp) [] (wipe σ (own.map (·.2))) H' s' ∧ tn i s'.heap ∧ (∀ b ∈ fp, H' b = none) ∧ W i m H' := fun {σ9 s' H'} I' hl hk nx => by
        obtain ⟨m', hm, w'⟩ := hNx H' nx
        have pin' : ∀ b ∈ fp, ∀ o, s7.heap.get? b = some o → s'.heap.get? b = some o ∧ H' b = none := fun b hb o e =>
          let z := I'.pin (b, o) (List.mem_append_right _ (List.mem_append_right _ (mem_pinsAt hb e)))
          ⟨z.1, z.2.1⟩
        refine ⟨m', hm, i + 1, H', (I'.unpinned (pins := [])).weak hl hk, T.keep _ _ _ st7 fun b hb o e => (pin' b hb o e).1, fun b hb => ?_, w'⟩
        obtain ⟨o, e, _⟩ := T.obj _ _ st7 b hb
        exact (pin' b hb o e).2
      have hl8 : (wipe σ (own.map (·.2))).length = σ8.length := by rw [← hw8, wipe_length]
      have hk8 : ∀ (j : Nat) v, (wipe σ (own.map (·.2)))[j]? = some (some v) → σ8[j]? = some (some v) := fun j v e => by
        rw [← hw8] at e
        exact (wipe_some e).1
      have hk9 : ∀ (j : Nat) v, (wipe σ (own.map (·.2)))[j]? = some (some v) → (wipe σ8 vs1)[j]? = some (some v) := fun j v e => by
        rw [← hw8] at e
        obtain ⟨e1, e2⟩ := wipe_some e
        rw [wipe_out fun z => e2 (hv j z)]
        exact e1
      cases b with
      | false =>
        simp only [Bool.false_eq_true, if_false] at q9 ⊢
        exact fin I9 hl8 hk8 q9
      | true =>
        simp only [if_true] at q9 ⊢
        refine thnF (pi1.run _ s9 σ8 H9 _ I9 q9) fun xv s10 hx => thnF hx fun itv s11 h11 => ?_
        obtain ⟨it1, fp1, tn1, J1, H11, e1, I11, T1, st11, f11, W1, ⟨m1, w1⟩, turn1⟩ := h11
        subst e1
        -- the inner loop
        have stat1 : ∀ {H' : Hp}, (∀ b ∈ fp1, H' b = none) → ∀ b ∈ fp1, FpOk (X.blk s3 H3 scope ce fp) ([] ++ pinsAt fp s7.heap) H' b := fun hn b hb => ⟨hn b hb, (f11 b hb).2⟩
        have loop1 : codeAny (model X.prog X.w) X.A (.compLoop (.SetComp elt [⟨tg, iter, ifs, 0⟩, ⟨tg1, iter1, ifs1, 0⟩] scope pos) 1 (.ref it1) (.ref D) ce)
            (fun r s' => match r with
              | .ok _ => ∃ m, m < n ∧ ∃ i H', Inv (X.blk s3 H3 scope ce fp) [] (wipe σ (own.map (·.2))) H' s' ∧ tn i s'.heap ∧ (∀ b ∈ fp, H' b = none) ∧ W i m H'
              | .error _ => False) s11 := by
          refine setLoop_in (fun k s' => ∃ j H', Inv (X.blk s3 H3 scope ce fp) ([] ++ pinsAt fp s7.heap) (wipe σ8 vs1) H' s' ∧ tn1 j s'.heap ∧ (∀ b ∈ fp1, H' b = none) ∧ W1 j k H') ?_ m1 ⟨0, H11, I11.weak (wipe_length _ _) (fun j v e => (wipe_some e).1), st11, fun b hb => (f11 b hb).1, w1⟩
          rintro k s12 ⟨j, H12, I12, st12, n12, w12⟩
          rcases turn1 j k H12 w12 with ⟨stop1, nx1⟩ | ⟨go1, Nx1, hNx1, step1⟩
          · refine thnF (T1.done (X.blk s3 H3 scope ce fp) rfl rfl rfl hc j _ s12 (wipe σ8 vs1) H12 (fun _ _ => False) I12 (stat1 n12) st12 stop1) fun r s13 ⟨hr, I13⟩ => ?_
            subst hr
            exact fin I13 (hl8.trans (wipe_length σ8 vs1).symm) hk9 nx1
          · refine thnF (T1.item (X.blk s3 H3 scope ce fp) rfl rfl rfl hc j _ s12 (wipe σ8 vs1) H12 (fun _ _ => False) I12 (stat1 n12) st12 go1) fun r s13 ⟨u1, hr, h13⟩ => ?_
            subst hr
            refine thnF h13 fun _ s14 ⟨x1, H14, I14, r14, y14, st14, n14⟩ => ?_
            have I14' := I14.pinned (stat1 n14) (T1.obj _ _ st14)
            refine thnF (pg1.run _ s14 (wipe σ8 vs1) H14 x1 u1 _ I14' r14 (step1 x1 H14 y14)) fun _ s15 ⟨σ15, H15, I15, hw15, q15⟩ => ?_
            refine thnF (pt1.run _ s15 σ15 H15 _ I15 q15) fun b1 s16 ⟨H16, I16, q16⟩ => ?_
            have fin1 : ∀ {s' : Shared} {H' : Hp}, Inv (X.blk s3 H3 scope ce fp) (([] ++ pinsAt fp s7.heap) ++ pinsAt fp1 s14.heap) σ15 H' s' → Nx1 H' → ∃ m, m < k ∧ ∃ j H', Inv (X.blk s3 H3 scope ce fp) ([] ++ pinsAt fp s7.heap) (wipe σ8 vs1) H' s' ∧ tn1 j s'.heap ∧ (∀ b ∈ fp1, H' b = none) ∧ W1 j m H' := fun {s' H'} I' nx => by
              obtain ⟨m', hm, w'⟩ := hNx1 H' nx
              have pin' : ∀ b ∈ fp1, ∀ o, s14.heap.get? b = some o → s'.heap.get? b = some o ∧ H' b = none := fun b hb o e =>
                let z := I'.pin (b, o) (List.mem_append_right _ (List.mem_append_right _ (mem_pinsAt hb e)))
                ⟨z.1, z.2.1⟩
              refine ⟨m', hm, j + 1, H', I'.unpinned.weak (by rw [← hw15, wipe_length]) (fun j v e => by rw [← hw15] at e; exact (wipe_some e).1), T1.keep _ _ _ st14 fun b hb o e => (pin' b hb o e).1, fun b hb => ?_, w'⟩
              obtain ⟨o, e, _⟩ := T1.obj _ _ st14 b hb
              exact (pin' b hb o e).2
            cases b1 with
            | false =>
              simp only [Bool.false_eq_true, if_false] at q16 ⊢
              exact fin1 I16 q16
            | true =>
              simp only [if_true] at q16 ⊢
              refine thnF (pe.run _ s16 σ15 H16 _ I16 q16) fun z s17 ⟨yv, H17, I17, r17, cb, S0, n0, ey, hD17, hz17, nx⟩ => ?_
              subst ey
              obtain ⟨tkz, rfl⟩ := r17
              exact addI_ok (X := X.blk s3 H3 scope ce fp) I17 hD17 hz17 fun s18 I18 => fin1 I18 nx
        exact setStart1 loop1 (T1.self X.A 0 _ _ _ st11 loop1)
  exact PpSet.codeAny_compStart_set loop (T.self X.A 0 _ _ _ st4 loop)

theorem pe_sc2 {elt tg iter tg1 iter1 : Expr} {ifs ifs1 : List Expr} {scope : Scope} {own : List (PySem.Str × Nat)} {vs1 : List Nat} {pos : Pos} {wi wi1 : TI} {g g1 : TG} {tt tt1 : TT} {te : TE} (hc : X.calm = true) (hN : X.N.Nodup) (hi : PI X tg iter wi) (ok : BlkOk X.N X.env.scope scope own) (hv : ∀ i ∈ vs1, i ∈ own.map (·.2))
    (hg : ∀ (s : Shared) (H : Hp) (C : Addr) (cl : List (PySem.Str × Addr)) (fp : List Addr), PG (X.blk s H scope (compEnvC scope cl C X.env) fp) tg g) (ht : ∀ (s : Shared) (H : Hp) (C : Addr) (cl : List (PySem.Str × Addr)) (fp : List Addr), PTs (X.blk s H scope (compEnvC scope cl C X.env) fp) ifs tt)
    (hi1 : ∀ (s : Shared) (H : Hp) (C : Addr) (cl : List (PySem.Str × Addr)) (fp : List Addr), PI (X.blk s H scope (compEnvC scope cl C X.env) fp) tg1 iter1 wi1)
    (hg1 : ∀ (s : Shared) (H : Hp) (C : Addr) (cl : List (PySem.Str × Addr)) (fp : List Addr), PG (X.blk s H scope (compEnvC scope cl C X.env) fp) tg1 g1) (ht1 : ∀ (s : Shared) (H : Hp) (C : Addr) (cl : List (PySem.Str × Addr)) (fp : List Addr), PTs (X.blk s H scope (compEnvC scope cl C X.env) fp) ifs1 tt1)
    (he : ∀ (s : Shared) (H : Hp) (C : Addr) (cl : List (PySem.Str × Addr)) (fp : List Addr), PE (X.blk s H scope (compEnvC scope cl C X.env) fp) elt te) (hs : ∀ x, foldedSetIterable iter X.env x = pure x) (hs1 : ∀ env x, foldedSetIterable iter1 env x = pure x) :
    PE X (.SetComp elt [⟨tg, iter, ifs, 0⟩, ⟨tg1, iter1, ifs1, 0⟩] scope pos) (tSc2 X.w wi g tt wi1 g1 tt1 te (own.map (·.2)) vs1) := by
  refine ⟨fun pins s σ H Q I h => ?_⟩
  rw [PpSet.eval_SetComp]
  refine sc2_core hc hN I hi ok hv hg ht he hs hi1 hg1 ht1 hs1 h fun D C s' m H' I' q hn f => ⟨m, hn, fun h'' sb => ?_⟩
  obtain ⟨f0, f1, f2, f3, f4, f5⟩ := f
  exact ⟨.ref D, H', I'.turned (t' := s'.toks) (fun b o hb e => (sb.2 b hb).trans e) f0 f1 f3 f4 f5, rfl, q⟩
end
end ZZ

namespace N
open PySem L2 LamX
theorem heap_all (o : Obj) (hf : ∀ h : Heap, (h.push o).get? h.objs.size = some o) : ∀ c : Nat, ∃ h : Heap, h.objs.size = c ∧ ∀ b, b < c → h.get? b = some o
  | 0 => ⟨{}, rfl, fun b hb => absurd hb (Nat.not_lt_zero b)⟩
  | c + 1 => by
    obtain ⟨h, h1, h2⟩ := heap_all o hf c
    refine ⟨h.push o, by rw [Heap.size_push, h1], fun b hb => ?_⟩
    by_cases e : b = c
    · subst e
      rw [← h1]
      exact hf h
    · exact Heap.get?_push_of_some _ (h2 b (by omega))
theorem setO_code {w : World} {D c : Addr} {M : Int → Bool} {n : Nat} {q : Str} : SetO w D M n ≠ CodeO c q := fun e => by
  have e2 : ∀ h : Heap, SetR w h D M n = ∃ (oc : Obj) (vs : Array Value) (t : Tok), h.get? c = some oc ∧ oc.data = .fields vs ∧ vs[1]? = some (.str q t) := fun h => congrFun (HO.ext.inj e) h
  obtain ⟨h, h1, h2⟩ := heap_all { cls := .none, data := .fields #[.none, .str q 0] } (fun h => Heap.get?_push_size _ rfl) (c + D + 1)
  have k : SetR w h D M n := by
    rw [e2 h]
    exact ⟨_, _, 0, h2 c (by omega), rfl, rfl⟩
  obtain ⟨o, es, ep, t, ho, _, hd, _⟩ := k
  rw [h2 D (by omega)] at ho
  cases ho
  cases hd
theorem Gr.mutS {T : Tbl} {H H' : Hp} {p : Addr} {u : HO} {w : World} {M : Int → Bool} {n : Nat} (g : Gr T H H') (h : H p = none) (hp : H' p = some (SetO w p M n)) : Gr T H (upd H' p u) := by
  refine ⟨fun b v e k => ?_, fun t => ?_⟩
  · rw [upd_ne (ne_of_none e h)]; exact g.1 b v e k
  · have t' := g.2 t
    intro q hq
    obtain ⟨ps, h1, h2, h3⟩ := t' q hq
    have nP : q.1 ≠ p := fun z => by
      rw [z, hp] at h1
      cases h1
    refine ⟨ps, by rw [upd_ne nP]; exact h1, h2, fun pos cv hc => ?_⟩
    obtain ⟨c, e1, e2⟩ := h3 pos cv hc
    have nc : c ≠ p := fun z => by
      rw [z, hp] at e2
      exact setO_code (Option.some.inj e2)
    exact ⟨c, e1, by rw [upd_ne nc]; exact e2⟩
/-! ### how many of the first m numbers a set holds -/
def cnt (m : Nat) (M : Int → Bool) : Nat := (List.range m).countP fun (i : Nat) => M (i : Int)
theorem cnt_none (m : Nat) : cnt m (fun _ => false) = 0 := by
  unfold cnt
  simp
theorem cnt_le (m : Nat) (M : Int → Bool) : cnt m M ≤ m := by
  unfold cnt
  exact Nat.le_trans List.countP_le_length (by simp)
theorem cnt_add (M : Int → Bool) (k : Nat) : ∀ m : Nat, cnt m (fun j => M j || decide (j = (k : Int))) = cnt m M + (if k < m ∧ M (k : Int) = false then 1 else 0)
  | 0 => by simp [cnt]
  | m + 1 => by
    have ih := cnt_add M k m
    unfold cnt at ih ⊢
    rw [List.range_succ, List.countP_append, List.countP_append, ih]
    simp only [List.countP_cons, List.countP_nil]
    by_cases e : m = k
    · subst e
      cases h : M (m : Int) <;> simp [h]
    · have e2 : ((m : Int) = (k : Int)) = False := by simp; omega
      simp only [e2, decide_false, Bool.or_false]
      have e3 : (k < m + 1 ∧ M (k : Int) = false) = (k < m ∧ M (k : Int) = false) := propext ⟨fun z => ⟨by omega, z.2⟩, fun z => ⟨by omega, z.2⟩⟩
      simp only [e3]
      omega
theorem sorted_eq : ∀ {a b : List Int}, a.Pairwise (· < ·) → b.Pairwise (· < ·) → (∀ k, k ∈ a ↔ k ∈ b) → a = b
  | [], [], _, _, _ => rfl
  | [], y :: b, _, _, h => by have := (h y).mpr List.mem_cons_self; simp at this
  | x :: a, [], _, _, h => by have := (h x).mp List.mem_cons_self; simp at this
  | x :: a, y :: b, ha, hb, h => by
    have ha' := List.pairwise_cons.mp ha
    have hb' := List.pairwise_cons.mp hb
    have e : x = y := by
      rcases List.mem_cons.mp ((h x).mp List.mem_cons_self) with q | q
      · exact q
      · rcases List.mem_cons.mp ((h y).mpr List.mem_cons_self) with r | r
        · exact r.symm
        · have := hb'.1 x q
          have := ha'.1 y r
          omega
    subst e
    refine congrArg _ (sorted_eq ha'.2 hb'.2 fun k => ⟨fun hk => ?_, fun hk => ?_⟩)
    · rcases List.mem_cons.mp ((h k).mp (List.mem_cons_of_mem _ hk)) with q | q
      · have := ha'.1 k hk; omega
      · exact q
    · rcases List.mem_cons.mp ((h k).mpr (List.mem_cons_of_mem _ hk)) with q | q
      · have := hb'.1 k hk; omega
      · exact q
/-- a stay's nights -/
def sleptBy (s : Int × Int × Int) (k : Int) : Bool := decide (s.2.1 ≤ k) && decide (k < s.2.1 + s.2.2)
def nightsOf (st : List (Int × Int × Int)) : List Int := ((List.range 28).map fun (i : Nat) => (i : Int)).filter fun k => st.any fun s => sleptBy s k
theorem nightsOf_mem {st : List (Int × Int × Int)} (hst : ∀ s ∈ st, 0 ≤ s.2.1 ∧ s.2.1 + s.2.2 ≤ 28) (k : Int) : k ∈ nightsOf st ↔ (st.any fun s => sleptBy s k) = true := by
  unfold nightsOf
  rw [List.mem_filter]
  refine ⟨fun h => h.2, fun h => ⟨?_, h⟩⟩
  obtain ⟨s, hs, q⟩ := List.any_eq_true.mp h
  unfold sleptBy at q
  simp at q
  have := hst s hs
  rw [List.mem_map]
  exact ⟨k.toNat, by rw [List.mem_range]; omega, by omega⟩
theorem nightsOf_sorted (st : List (Int × Int × Int)) : (nightsOf st).Pairwise (· < ·) := by
  unfold nightsOf
  refine List.Pairwise.filter _ ?_
  rw [List.pairwise_map]
  exact List.Pairwise.imp (fun h => by omega) List.pairwise_lt_range
/-- a walk over 0, 1, .. n - 1 that looks at nothing -/
def WkN (J : It) (n : Nat) : Prop := ∀ H, (∀ i, i < n → J.go i H) ∧ J.stop n H ∧ ∀ i x H', i < n → J.yld i H x H' → H' = H ∧ x = .int (i : Int)
def Iw0 (K : PySem.W.Frag) (T : Tbl) (wi : TI) (δ : Sl) (n : Nat) : Prop := ∀ (S : Addr → Prop) (σ : St) (H : Hp), Ad K T S H σ δ → ∀ R : It → Hp → Prop, (∀ J H', Gr T H H' → WkN J n → R J H') → wi σ H R
section
variable {K : PySem.W.Frag} {T : Tbl} {S : Addr → Prop} {H : Hp} {σ : St} {δ : Sl} {w : World} {D : Addr} {M M' : Int → Bool} {n n' : Nat}
theorem SL.mutS {a : Addr} {xs : List V} (hD : H D = some (SetO w D M n)) (h : SL K S H a xs) : SL K S (upd H D (SetO w D M' n')) a xs := by
  rcases h with ⟨k, h⟩ | h
  · refine .inl ⟨k, ?_⟩
    rcases h with h | ⟨q, h⟩
    · exact .inl (by rw [upd_ne (fun z => by rw [z, hD] at h; cases h)]; exact h)
    · exact .inr ⟨q, by rw [upd_ne (fun z => by rw [z, hD] at h; cases h)]; exact h⟩
  · exact .inr h
theorem SqT.mutS {a : Addr} {xs : List V} (hD : H D = some (SetO w D M n)) (h : SqT K H a xs) : SqT K (upd H D (SetO w D M' n')) a xs := by
  rcases h with h | h
  · refine .inl ?_
    rcases h with h | ⟨q, h⟩
    · exact .inl (by rw [upd_ne (fun z => by rw [z, hD] at h; cases h)]; exact h)
    · exact .inr ⟨q, by rw [upd_ne (fun z => by rw [z, hD] at h; cases h)]; exact h⟩
  · exact .inr h
theorem Rp.mutS {v : V} {d : PyData} (hD : H D = some (SetO w D M n)) (h : Rp K S H v d) : Rp K S (upd H D (SetO w D M' n')) v d := h.keep (fun _ _ => SL.mutS hD) fun _ _ => SqT.mutS hD
theorem Tabs.mutS (hD : H D = some (SetO w D M n)) (t' : Tabs T H) : Tabs T (upd H D (SetO w D M' n')) := by
  intro q hq
  obtain ⟨ps, h1, h2, h3⟩ := t' q hq
  have nP : q.1 ≠ D := fun z => by
    rw [z, hD] at h1
    cases h1
  refine ⟨ps, by rw [upd_ne nP]; exact h1, h2, fun pos cv hc => ?_⟩
  obtain ⟨c, e1, e2⟩ := h3 pos cv hc
  have nc : c ≠ D := fun z => by
    rw [z, hD] at e2
    exact setO_code (Option.some.inj e2)
  exact ⟨c, e1, by rw [upd_ne nc]; exact e2⟩
theorem Ad.mutS (hD : H D = some (SetO w D M n)) (h : Ad K T S H σ δ) : Ad K T S (upd H D (SetO w D M' n')) σ δ := by
  refine ⟨fun a ha => ?_, Tabs.mutS hD h.tab, h.sd.len, fun i e q => ?_⟩
  · obtain ⟨o, e, m⟩ := h.sok a ha
    refine ⟨o, ?_, m⟩
    rw [upd_ne (fun z => ?_)]
    · exact e
    · rw [z, hD] at e
      rw [← Option.some.inj e] at m
      exact m
  · obtain ⟨v, e1, e2⟩ := h.sd.at' i e q
    refine ⟨v, e1, ?_⟩
    cases e with
    | d p => exact Rp.mutS hD e2
    | rf a => exact e2
    | ob x C fds nm =>
      obtain ⟨h1, dx, fs, h2, h3, h4⟩ := e2
      refine ⟨h1, dx, fs, ?_, fun f p q => ?_, h4⟩
      · rw [upd_ne (fun z => by rw [z, hD] at h2; cases h2)]
        exact h2
      · obtain ⟨u, a, b⟩ := h3 f p q
        exact ⟨u, a, Rp.mutS hD b⟩
end
section
variable {T : Tbl} {X : Cx} {δ : Sl}
/-- the reading of sorted's argument -/
theorem ed_sc2 {K : PySem.W.Frag} {w : World} {wi wi1 : TI} {g g1 : TG} {te : TE} {vs vs1 js js1 : List Nat} (hjs : ∀ j ∈ js, j ∈ vs) (hjs1 : ∀ j ∈ js1, j ∈ vs1) (st : List (Int × Int × Int)) (hst : ∀ s ∈ st, 0 ≤ s.2.1 ∧ s.2.1 + s.2.2 ≤ 28 ∧ 0 ≤ s.2.2) (hi : Iw K T wi δ (st.map stayD))
    (turn : ∀ s ∈ st, ∃ δ', Eg K T js g (wipeD δ vs) (stayD s) δ' ∧ Iw0 K T wi1 δ' s.2.2.toNat ∧ ∀ i : Nat, i < s.2.2.toNat → ∃ δ2, Eg K T js1 g1 (wipeD δ' vs1) (.int (i : Int)) δ2 ∧ Ed K T te δ2 (.d (.int (s.2.1 + (i : Int)))))
    (S : Addr → Prop) (σ : L2.St) (H : Hp) (ad : Ad K T S H σ δ) (Q : VK) (k : ∀ D M n H', Gr T H H' → H' D = some (SetO w D M n) → n < 64 → (∀ k : Int, M k = true ↔ (st.any fun s => sleptBy s k) = true) → Q (.ref D) H') :
    ZZ.tSc2 w wi g tYes wi1 g1 tYes te vs vs1 σ H Q := by
  refine hi S σ H ad _ fun J H1 g1' wk D hD => ?_
  have ad1 := ad.grow g1'
  have hlen : (st.map stayD).length = st.length := List.length_map ..
  let Mi : Nat → Int → Bool := fun i k => (st.take i).any fun s => sleptBy s k
  let Ok : (Int → Bool) → Nat → Prop := fun M n => n = cnt 28 M ∧ ∀ k, M k = true → 0 ≤ k ∧ k < 28
  refine ⟨fun i m H => m = st.length - i ∧ i ≤ st.length ∧ Gr T H1 H ∧ ∃ M n, H D = some (SetO w D M n) ∧ Ok M n ∧ ∀ k, M k = Mi i k, ⟨st.length, rfl, Nat.zero_le _, Gr.new hD, _, _, upd_same, ⟨(cnt_none 28).symm, fun k h => by cases h⟩, fun k => by show false = (st.take 0).any _; rw [List.take_zero]; rfl⟩, ?_⟩
  rintro i m H2 ⟨rfl, hi2, g2, M, n, hDM, hok, hM⟩
  obtain ⟨w1, w2, w3⟩ := wk H2 g2
  by_cases hlt : i < st.length
  · refine .inr ⟨w1 i (by rw [hlen]; exact hlt), fun H' => i + 1 ≤ st.length ∧ Gr T H1 H' ∧ ∃ M n, H' D = some (SetO w D M n) ∧ Ok M n ∧ ∀ k, M k = Mi (i + 1) k, fun H' q => ⟨st.length - (i + 1), by omega, rfl, q.1, q.2⟩, fun x H3 y => ?_⟩
    obtain ⟨g3, hx⟩ := w3 i x H3 (by rw [hlen]; exact hlt) y
    obtain ⟨d, hd, rx⟩ := hx S (fun b h => .inl h)
    have hxi : st[i]? = some st[i] := by simp [hlt]
    rw [List.getElem?_map, hxi] at hd
    have hd : stayD st[i] = d := Option.some.inj hd
    subst hd
    obtain ⟨δ', t1, t2, t3⟩ := turn st[i] (List.getElem_mem hlt)
    have bound := hst st[i] (List.getElem_mem hlt)
    have hD3 : H3 D = some (SetO w D M n) := g3.1 _ _ hDM (fun ps z => by cases z)
    have g13 := g2.trans g3
    refine t1 S _ H3 x ((ad1.grow g13).wipe vs) rx _ fun σ2 ad4 bt => ⟨wipe_but bt hjs, ?_⟩
    show wi1 σ2 H3 _
    refine t2 S σ2 H3 ad4 _ fun J1 H4 g4 wk1 => ?_
    have hD4 : H4 D = some (SetO w D M n) := g4.1 _ _ hD3 (fun ps z => by cases z)
    let Mj : Nat → Int → Bool := fun j k => Mi i k || (decide (st[i].2.1 ≤ k) && decide (k < st[i].2.1 + (j : Int)))
    refine ⟨fun j m H => m = st[i].2.2.toNat - j ∧ j ≤ st[i].2.2.toNat ∧ Gr T H1 H ∧ Ad K T S H σ2 δ' ∧ ∃ M n, H D = some (SetO w D M n) ∧ Ok M n ∧ ∀ k, M k = Mj j k, ⟨_, rfl, Nat.zero_le _, g13.trans g4, ad4.grow g4, M, n, hD4, hok, fun k => ?_⟩, ?_⟩
    · rw [hM k]
      show Mi i k = (Mi i k || (decide (st[i].2.1 ≤ k) && decide (k < st[i].2.1 + ((0 : Nat) : Int))))
      have : (decide (st[i].2.1 ≤ k) && decide (k < st[i].2.1 + ((0 : Nat) : Int))) = false := by
        rw [Bool.and_eq_false_iff]
        simp
        omega
      rw [this, Bool.or_false]
    rintro j m H5 ⟨rfl, hj2, g5, ad5, M5, n5, hD5, hok5, hM5⟩
    obtain ⟨v1, v2, v3⟩ := wk1 H5
    by_cases hjl : j < st[i].2.2.toNat
    · refine .inr ⟨v1 j hjl, fun H' => j + 1 ≤ st[i].2.2.toNat ∧ Gr T H1 H' ∧ Ad K T S H' σ2 δ' ∧ ∃ M n, H' D = some (SetO w D M n) ∧ Ok M n ∧ ∀ k, M k = Mj (j + 1) k, fun H' q => ⟨st[i].2.2.toNat - (j + 1), by omega, rfl, q.1, q.2⟩, fun x1 H6 y1 => ?_⟩
      obtain ⟨e6, rfl⟩ := v3 j x1 H6 hjl y1
      subst e6
      obtain ⟨δ2, u1, u2⟩ := t3 j hjl
      refine u1 S _ H6 _ (ad5.wipe vs1) (Rp.int _) _ fun σ3 ad7 bt1 => ⟨wipe_but bt1 hjs1, ?_⟩
      show te σ3 H6 _
      refine u2 S σ3 H6 ad7 _ fun yv H7 g7 ry => ?_
      have hD7 : H7 D = some (SetO w D M5 n5) := g7.1 _ _ hD5 (fun ps z => by cases z)
      have ey := Rp.int_inv ry
      have hcl := cnt_le 28 M5
      have hn5 := hok5.1
      refine ⟨_, M5, n5, ey, hD7, by show n5 + 1 < scanBound; have : (30 : Nat) < scanBound := by decide
                                     omega, hjl, (g5.trans g7).mutS hD hD7, (ad5.grow g7).mutS hD7, _, _, upd_same, ⟨?_, ?_⟩, ?_⟩
      · have e0 : st[i].2.1 + (j : Int) = ((st[i].2.1 + (j : Int)).toNat : Int) := by omega
        have := cnt_add M5 (st[i].2.1 + (j : Int)).toNat 28
        rw [← e0] at this
        rw [this]
        cases hm : M5 (st[i].2.1 + (j : Int)) with
        | true => rw [if_pos rfl, if_neg (fun z => by cases z.2)]; exact hn5
        | false => rw [if_neg (by simp), if_pos ⟨by omega, rfl⟩, hn5]
      · intro k hk
        rcases Bool.or_eq_true _ _ |>.mp hk with q | q
        · exact hok5.2 k q
        · have := of_decide_eq_true q
          omega
      · intro k
        show (M5 k || decide (k = st[i].2.1 + (j : Int))) = (Mi i k || (decide (st[i].2.1 ≤ k) && decide (k < st[i].2.1 + ((j + 1 : Nat) : Int))))
        rw [hM5 k]
        show ((Mi i k || (decide (st[i].2.1 ≤ k) && decide (k < st[i].2.1 + (j : Int)))) || decide (k = st[i].2.1 + (j : Int))) = _
        rw [Bool.or_assoc]
        congr 1
        rw [Bool.eq_iff_iff]
        simp
        omega
    · have e : j = st[i].2.2.toNat := by omega
      subst e
      refine .inl ⟨v2, hlt, g5, M5, n5, hD5, hok5, fun k => ?_⟩
      rw [hM5 k]
      have htk : st.take (i + 1) = st.take i ++ [st[i]] := List.take_succ_eq_append_getElem hlt
      show (Mi i k || (decide (st[i].2.1 ≤ k) && decide (k < st[i].2.1 + (st[i].2.2.toNat : Int)))) = (st.take (i + 1)).any _
      rw [htk, List.any_append, List.any_cons, List.any_nil, Bool.or_false]
      congr 1
      unfold sleptBy
      have : ((st[i].2.2.toNat : Nat) : Int) = st[i].2.2 := by omega
      rw [this]
  · have e : i = st.length := by omega
    subst e
    rw [hlen] at w2
    refine .inl ⟨w2, k D M n H2 (g1'.trans g2) hDM ?_ fun k => ?_⟩
    · have := cnt_le 28 M
      rw [hok.1]
      omega
    · rw [hM k]
      show (st.take st.length).any _ = true ↔ _
      rw [List.take_length]
end
end N

namespace N
open PySem L2 LamX
def tI (X : Cx) (tg it : Expr) : TI := fun σ H R => ∀ pins s, Inv X pins σ H s → wpAny (model X.prog X.w) X.A (eval it X.env) (fun v s1 => wpAny (model X.prog X.w) X.A (pyIter v) (PIE X pins σ tg R) X.xe s1) X.xe s
def bI (X : Cx) (scope : Scope) (tg it : Expr) : TI := fun σ H Q => ∀ (s : Shared) (H0 : Hp) (C : Addr) (cl : List (Str × Addr)) (fp : List Addr), tI (X.blk s H0 scope (compEnvC scope cl C X.env) fp) tg it σ H Q
section
variable {T : Tbl} {X : Cx} {δ : Sl} {a b c e tg : Expr}
theorem bI_ok {scope : Scope} {tg it : Expr} (s : Shared) (H : Hp) (C : Addr) (cl : List (Str × Addr)) (fp : List Addr) : PI (X.blk s H scope (compEnvC scope cl C X.env) fp) tg it (bI X scope tg it) := ⟨fun pins s2 _ _ _ I h => h s H C cl fp pins s2 I⟩
theorem iw_range {n : Int} {p pos : Pos} (B : Bn X.mg) (h : Ev T X a δ (.d (.int n))) (hn : 0 ≤ n ∧ n ≤ 100000) (hg : Gl X "range") (hs : starEach [a] X.env = [(false, eval a X.env)]) : Iw0 X.K T (tI X tg (.Call (.Name "range" p) [a] [] pos)) δ n.toNat := fun S σ H ad R k pins s I => by
  refine (pi_range1 hg B.range (pa_cons (pe_best X) pa_nil hs) hs).run pins s σ H R I ?_
  refine h S σ H ad _ fun v H1 g r => ⟨n, by rw [Rp.int_inv r], by omega, by omega, k _ H1 g fun H2 => ?_⟩
  have w := walk_range (lo := 0) (n := n.toNat)
  refine ⟨fun i hi => w.goes i H2 hi trivial, w.stops H2 trivial, fun i x H3 hi y => ?_⟩
  obtain ⟨e1, e2⟩ := w.yields i H2 x H3 hi trivial y
  refine ⟨e1, ?_⟩
  rw [e2]
  exact congrArg _ (Int.zero_add _)
/-- sorted({e for kind, first, nights in stays for turn in range(nights)}) -/
theorem ev_sortSet {iter elt tg1 nx : Expr} {scope : Scope} (own : List (Str × Nat)) (vs1 : List Nat) {js js1 : List Nat} {p rp rpos spos pos : Pos} (B : Bn X.mg) (st : List (Int × Int × Int)) (hst : ∀ s ∈ st, 0 ≤ s.2.1 ∧ s.2.1 + s.2.2 ≤ 28 ∧ 0 ≤ s.2.2) (hN : X.N.Nodup) (hok : blkC X.N X.env.scope scope own = true) (hi : Evi T X tg iter δ (st.map stayD))
    (turn : ∀ q ∈ st, ∃ δ', (∀ (s : Shared) (H0 : Hp) (C : Addr) (cl : List (Str × Addr)) (fp : List Addr), Evg T (X.blk s H0 scope (compEnvC scope cl C X.env) fp) js tg (wipeD δ (own.map (·.2))) (stayD q) δ' ∧ Ev T (X.blk s H0 scope (compEnvC scope cl C X.env) fp) nx δ' (.d (.int q.2.2)) ∧
      Gl (X.blk s H0 scope (compEnvC scope cl C X.env) fp) "range" ∧ starEach [nx] (X.blk s H0 scope (compEnvC scope cl C X.env) fp).env = [(false, eval nx (X.blk s H0 scope (compEnvC scope cl C X.env) fp).env)]) ∧
      ∀ i : Nat, i < q.2.2.toNat → ∃ δ2, (∀ (s : Shared) (H0 : Hp) (C : Addr) (cl : List (Str × Addr)) (fp : List Addr), Evg T (X.blk s H0 scope (compEnvC scope cl C X.env) fp) js1 tg1 (wipeD δ' vs1) (.int (i : Int)) δ2 ∧ Ev T (X.blk s H0 scope (compEnvC scope cl C X.env) fp) elt δ2 (.d (.int (q.2.1 + (i : Int))))))
    (hv : ∀ i ∈ vs1, i ∈ own.map (·.2) := by decide) (hjs : ∀ j ∈ js, j ∈ own.map (·.2) := by decide) (hjs1 : ∀ j ∈ js1, j ∈ vs1 := by decide) (hc : X.calm = true := by rfl) (hs : ∀ x, foldedSetIterable iter X.env x = pure x := by intro _; rfl) (hs1 : ∀ env x, foldedSetIterable (.Call (.Name "range" rp) [nx] [] rpos) env x = pure x := by intro _ _; rfl) (hg : Gl X "sorted" := by rfl)
    (hs2 : starEach [.SetComp elt [⟨tg, iter, [], 0⟩, ⟨tg1, .Call (.Name "range" rp) [nx] [] rpos, [], 0⟩] scope spos] X.env = (false, eval (.SetComp elt [⟨tg, iter, [], 0⟩, ⟨tg1, .Call (.Name "range" rp) [nx] [] rpos, [], 0⟩] scope spos) X.env) :: starEach [] X.env := by rfl) :
    Ev T X (.Call (.Name "sorted" p) [.SetComp elt [⟨tg, iter, [], 0⟩, ⟨tg1, .Call (.Name "range" rp) [nx] [] rpos, [], 0⟩] scope spos] [] pos) δ (.d (.list ((nightsOf st).map .int))) := by
  obtain ⟨wi, h1, h2⟩ := hi
  have pe := ZZ.pe_sc2 (elt := elt) (te := bE X scope elt) (pos := spos) hc hN h1 (blkOk_by hok) hv bG_ok (fun s H C cl fp => pts_nil) (bI_ok (tg := tg1) (it := .Call (.Name "range" rp) [nx] [] rpos)) bG_ok (fun s H C cl fp => pts_nil) bE_ok hs hs1
  refine ev_of (pe_callB (cr_sortedSet hc) hg B.sorted (by decide +kernel) (pa_cons pe pa_nil hs2) (he := hs2) (hpl := by rfl)) fun S σ H ad Q k => ?_
  refine (show ZZ.tSc2 X.w wi (bG X scope tg) tYes (bI X scope tg1 (.Call (.Name "range" rp) [nx] [] rpos)) (bG X scope tg1) tYes (bE X scope elt) (own.map (·.2)) vs1 σ H (fun v H1 => tNil σ H1 fun vs H2 => rSortedSet X.w (v :: vs) H2 Q) from ?_)
  refine ed_sc2 (js := js) (js1 := js1) hjs hjs1 st hst h2 (fun q hq => ?_) S σ H ad _ fun D M n H' g hD hn hM => ?_
  · obtain ⟨δ', t⟩ := turn q hq
    refine ⟨δ', fun S σ H v a r Q k s H0 C cl fp => (t.1 s H0 C cl fp).1 S σ H v a r Q k, fun S σ H a R k s H0 C cl fp => ?_, fun i hi => ?_⟩
    · obtain ⟨_, t2, t3, t4⟩ := t.1 s H0 C cl fp
      exact iw_range (X := X.blk s H0 scope (compEnvC scope cl C X.env) fp) B t2 ⟨(hst q hq).2.2, by have := hst q hq; omega⟩ t3 t4 S σ H a R k
    · obtain ⟨δ2, u⟩ := t.2 i hi
      exact ⟨δ2, fun S σ H v a r Q k s H0 C cl fp => (u s H0 C cl fp).1 S σ H v a r Q k, fun S σ H a Q k s H0 C cl fp => (u s H0 C cl fp).2 S σ H a Q k⟩
  · refine ⟨D, M, n, rfl, hD, hn, fun ns p hs hm hl hp => ?_⟩
    have e : ns = nightsOf st := sorted_eq hs (nightsOf_sorted st) fun k => by
      rw [hm k, hM k, nightsOf_mem fun s hs => ⟨(hst s hs).1, (hst s hs).2.1⟩]
    subst e
    have g2 : Gr T H' (upd H' p (.lst ((nightsOf st).map V.int))) := Gr.new hp
    exact k _ _ (g.trans g2) (Rp.lst (.inl ⟨(ad.sok.mono g).fresh hp, .inl upd_same⟩) (RpA.of_ints _))
end
end N

/-! dicts with tuples as keys: items walked, the least value, the empty one, one pair shown -/
namespace N
open PySem L2 LamX
abbrev TK := List L2.Key
section
variable {X : Cx} {pins : List (Addr × Obj)} {σ : L2.St} {H : Hp} {s : Shared} {d : Addr} {o : Obj} {kvs : List (TK × V)}
theorem dT_raw (I : Inv X pins σ H s) (h : Rd H d (.dT kvs)) : (d == sysModules) = false ∧ kvs.length ≤ sizeLine ∧ ∃ (es : Array DictEntry) (ep : Nat), s.heap.DictRaw d es ep ∧ es.size = kvs.length ∧ (∀ o, H d = some (.frz o (.dT kvs)) → o.data = .dict es ep) ∧
    ∀ (i : Nat) (k : TK) (v : V), kvs[i]? = some (k, v) → ∃ (en : DictEntry) (q : Addr), es[i]? = some en ∧ en.key = .ref q ∧ H q = some (.tup (k.map kV)) ∧ RelV v en.val := by
  obtain ⟨z, hs, xs, pr, o', es, ep, ho, hx, hdt, he, _⟩ := (show ObjOk X.prog X.w H s.heap d (.dT kvs) from rd_of I.hok h)
  refine ⟨hs, z, es, ep, ⟨o', ho, hx, hdt⟩, ?_, fun o q => ?_, fun i k v e => ?_⟩
  · have l1 : es.size = xs.length := size_of_entries he
    have l2 : kvs.length = xs.length := Paired.length pr
    omega
  · have e1 := (I.hok d _ q).1
    rw [ho] at e1
    cases e1
    exact hdt
  · obtain ⟨b, hb, e1, e2, e3⟩ := paired_get pr e
    have q := entry_at he i
    rw [hb] at q
    exact ⟨_, b.2.1, q, rfl, e2, e3⟩
end
/-- the pairs of the locked dict at d, each a new tuple -/
def ItiT (d : Addr) (o : Obj) (kvs : List (TK × V)) : It :=
  ⟨fun i H => H d = some (.frz o (.dT kvs)) ∧ i < kvs.length, fun i H x H' => ∃ T k v q, kvs[i]? = some (k, v) ∧ x = .ref T ∧ H T = none ∧ H q = some (.tup (k.map kV)) ∧ H' = upd H T (.tup [.ref q, v]), fun i H => H d = some (.frz o (.dT kvs)) ∧ kvs.length ≤ i⟩
theorem turn_itemsT {P : Program} {w : World} {K : PySem.W.Frag} {d : Addr} {o : Obj} {es : Array DictEntry} {ep : Nat} {kvs : List (TK × V)} {elts : List Expr} {kk : Nat} {tpos : Pos} (it : Addr) (hod : o.data = .dict es ep) :
    Turn P w K (.Tuple elts kk tpos) (ItiT d o kvs) [it] it (fun i h => ∃ ok ov, IsItemIter h it d i kvs.length ep ok ov) where
  mem := by simp
  obj := fun i h st b hb => by
    have e : b = it := by simpa using hb
    subst e
    obtain ⟨ok, ov, e⟩ := st
    exact ⟨_, e, fun v z => nomatch z⟩
  keep := fun i h h' st k => let ⟨ok, ov, e⟩ := st; ⟨ok, ov, k it (by simp) _ e⟩
  item := by
    intro X hP hw hK hc i pins s σ H E I hf st hg
    subst hP hw hK
    obtain ⟨hd, hi⟩ := hg
    obtain ⟨hs, _, es', ep', hraw, hsz, hfr, ent⟩ := dT_raw I (.inr ⟨_, hd⟩)
    obtain ⟨rfl, rfl⟩ := dict_ep hod (hfr _ hd)
    obtain ⟨⟨k, v⟩, hkv⟩ : ∃ p, kvs[i]? = some p := ⟨kvs[i], List.getElem?_eq_getElem hi⟩
    obtain ⟨en, q, hen, hkey, hq, rv⟩ := ent i k v hkv
    obtain ⟨ok, ov, he⟩ := st
    rw [← hsz] at he
    have hlt : it < s.heap.objs.size := Heap.lt_size he
    have hi' : i < es'.size := by omega
    have een : es'[i] = en := by
      rw [Array.getElem?_eq_getElem hi'] at hen
      exact Option.some.inj hen
    refine wpAny_pyNext_items_item_raw he hraw hi' fun h' ho hT hz hk => ?_
    rw [een] at ho hT
    refine ⟨_, rfl, wpAny_letOwnedTupleGo_items (s := { s with heap := h' }) ho fun h'' he' sb => ?_⟩
    have hT2 : h''.get? s.heap.objs.size = some { cls := .type "tuple", data := .seq #[en.key, en.val] } := (sb.2 _ (Nat.ne_of_gt hlt)).trans hT
    have new : ObjOk X.prog X.w (upd H s.heap.objs.size (.tup [.ref q, v])) h'' s.heap.objs.size (.tup [.ref q, v]) :=
      ⟨by show 2 ≤ sizeLine; decide, [en.key, en.val], .cons hkey (.cons rv .nil), ⟨_, hT2, rfl, _, rfl⟩⟩
    have I1 : Inv X pins σ (upd H s.heap.objs.size (.tup [.ref q, v])) { s with heap := h'' } :=
      I.turnedNew (t' := s.toks) (ch := [it]) (fun b ob hb e => (sb.2 b (by simpa using hb)).trans (hk b ob (by simpa using hb) e)) hf (Nat.le_refl _) new
    refine ⟨.ref s.heap.objs.size, _, I1, rfl, ⟨_, k, v, q, hkv, rfl, I.hok.fresh (Nat.le_refl _), hq, rfl⟩, ⟨en.key, en.val, ?_⟩, fun b hb => ?_⟩
    · rw [← hsz]; exact he'
    · have e : b = it := by simpa using hb
      rw [e, upd_ne (Nat.ne_of_lt hlt)]
      exact (hf it (by simp)).1
  done := by
    intro X hP hw hK hc i pins s σ H E I hf st hg
    subst hP hw hK
    obtain ⟨hd, hi⟩ := hg
    obtain ⟨f0, f1, f2, f3, f4, f5⟩ := hf it (by simp)
    obtain ⟨hs, _, es', ep', hraw, hsz, hfr, ent⟩ := dT_raw I (.inr ⟨_, hd⟩)
    obtain ⟨rfl, rfl⟩ := dict_ep hod (hfr _ hd)
    obtain ⟨ok, ov, he⟩ := st
    rw [← hsz] at he
    exact wpAny_pyNext_items_end_raw (I.ok.hd hc) he hraw (by omega) fun h' eb => ⟨rfl, I.turned (t' := s.toks) (fun b o hb e => eb b o hb e) f0 f1 f3 f4 f5⟩
  self := fun A i s Q E st h => let ⟨_, _, e⟩ := st; PySem.W.kcp_self e h
def iItemsT (td : TE) : TI := fun σ H R => td σ H fun x H1 => ∃ d o kvs, x = .ref d ∧ H1 d = some (.frz o (.dT kvs)) ∧ R (ItiT d o kvs) H1
section
variable {X : Cx} {e : Expr} {td : TE} {p pos apos cpos : Pos}
theorem pi_itemsT {elts : List Expr} {kk : Nat} {tpos : Pos} (he : PE X e td) (hbase : attributeBase e "items" X.env (eval e X.env) = eval e X.env := by rfl) (hline : (apos.endLine == cpos.line) = true := by rfl) :
    PI X (.Tuple elts kk tpos) (.Call (.Attribute e "items" apos) [] [] cpos) (iItemsT td) := by
  refine ⟨fun pins s σ H R I h => ?_⟩
  refine wpAny_Call_method (T := "dict") (id := "dict.items") hbase rfl hline F.plainAttrs_dict F.slot_dict_items F.type_dict_items (thn (he.run pins s σ H _ I h) fun u s1 ⟨x, H1, I1, rx, d, o, kvs, ex, hd, q⟩ => ?_)
  subst ex
  obtain rfl : u = Value.ref d := rx
  obtain ⟨hs, _, es, ep, hraw, hsz, hfr, ent⟩ := dT_raw I1 (.inr ⟨_, hd⟩)
  obtain ⟨od, hod, hex, hdat⟩ := id hraw
  refine ⟨hraw.typeIs, fun b z => ?_, ?_⟩
  · cases z
    exact ⟨od, hod, hex.2.1⟩
  have I2 : Inv X pins σ H1 { s1 with heap := s1.heap.push { cls := .type "dict_items", data := .fields #[.ref d] } } := I1.kept (t' := s1.toks) fun b ob q => Heap.get?_push_of_some _ q
  have fin : wpAny (model X.prog X.w) X.A (pyIter (.ref s1.heap.objs.size)) (PIE X pins σ (.Tuple elts kk tpos) R) X.xe { s1 with heap := s1.heap.push { cls := .type "dict_items", data := .fields #[.ref d] } } := by
    refine wpAny_pyIter_items_raw (d := d) ⟨_, Heap.get?_push_size _ rfl, rfl, rfl⟩ (hraw.at fun o e => Heap.get?_push_of_some _ e) (pi_one (tk := s1.toks) I2 _ (turn_itemsT _ (hfr _ hd)) ⟨.none, .none, ?_⟩ q)
    rw [← hsz]
    exact Heap.get?_push_size _ rfl
  show wpAny _ _ (callWith cpos (.builtin "dict.items") [.ref d] [] []) _ X.xe s1
  exact method_meetsIn F.slot_dict_items F.entry_dict_items rfl (PySem.evalArgs_none ⟨rfl, hraw.typeIs, F.args_dict_items_1 _, _, meets_dict_items_raw d hs, ⟨es, ep, hraw⟩, fin⟩)
/-- min(o.values()), tuple keys, int values, one at least -/
def tMinValsT (td : TE) : TE := fun σ H Q => td σ H fun x H1 => ∃ a kvs is, x = V.ref a ∧ Rd H1 a (.dT kvs) ∧ kvs.map (·.2) = is.map V.int ∧ is ≠ [] ∧ ∀ m, m ∈ is → (∀ j ∈ is, m ≤ j) → Q (.int m) H1
theorem pe_minValsT {o : Expr} {mpos : Pos} (hc : X.calm = true) (hg : Gl X "min") (hm : X.mg "min" = none) (hd : PE X o td) (hbase : attributeBase o "values" X.env (eval o X.env) = eval o X.env := by rfl) (hline : (apos.endLine == mpos.line) = true := by rfl)
    (hse : starEach [Expr.Call (.Attribute o "values" apos) [] [] mpos] X.env = [(false, eval (Expr.Call (.Attribute o "values" apos) [] [] mpos) X.env)] := by rfl) :
    PE X (.Call (.Name "min" p) [.Call (.Attribute o "values" apos) [] [] mpos] [] pos) (tMinValsT td) := by
  refine ⟨fun pins s σ H Q I h => ?_⟩
  refine wpAny_Call_Name_kw (ld_blt I hg hm (u := .builtin "min") (by decide +kernel) ?_ (by decide +kernel) (by decide +kernel))
  rw [hse]
  refine PySem.callWith_builtin1 (wpAny_Call_method0_late hbase hline (thn (hd.run pins s σ H _ I h) fun v s1 ⟨x, H1, I1, r1, a, kvs, is, ex, ha, hv, hne, q⟩ => ?_))
  subst ex
  obtain rfl : v = Value.ref a := r1
  obtain ⟨hsys, _, es, ep, raw, hsz, _, ent⟩ := dT_raw I1 ha
  obtain ⟨ob, ho, hex, hdat⟩ := id raw
  refine ⟨"dict", "dict.values", F.plainAttrs_dict, F.slot_dict_values, F.type_dict_values, raw.typeIs, fun b e => ?_, Calls.callWith_builtin rfl (PySem.evalArgs_none ?_)⟩
  · cases e
    exact ⟨ob, ho, hex.2.1⟩
  refine call_meetsIn F.slot_dict_values raw.typeIs F.entry_dict_values (F.args_dict_values_1 _) (meets_dict_values_raw a hsys) ⟨⟨es, ep, raw⟩, ?_⟩
  have k1 : ∀ b u, s1.heap.get? b = some u → (s1.heap.push { cls := .type "dict_values", data := .fields #[.ref a] }).get? b = some u := fun b u e => Heap.get?_push_of_some _ e
  have raw1 : (s1.heap.push { cls := .type "dict_values", data := .fields #[.ref a] }).DictRaw a es ep := raw.at fun o e => k1 a o e
  have hl : kvs.length = is.length := by
    have e1 := congrArg List.length hv
    rwa [List.length_map, List.length_map] at e1
  have hlen : 0 < es.size := by
    rw [hsz, hl]
    exact List.length_pos_iff.mpr hne
  have hval : ∀ (i : Nat) (v : Value), (∃ hi : i < es.size, v = es[i].val) → ∃ t, v = Value.int (is.getD i 0) t := fun i v ⟨hi, hk⟩ => by
    have hi2 : i < kvs.length := by omega
    obtain ⟨⟨k, x⟩, hkv⟩ : ∃ p, kvs[i]? = some p := ⟨kvs[i], List.getElem?_eq_getElem hi2⟩
    obtain ⟨en, qq, hen, _, _, rv⟩ := ent i k x hkv
    have een : es[i] = en := by
      rw [Array.getElem?_eq_getElem hi] at hen
      exact Option.some.inj hen
    have e1 : (kvs.map (·.2))[i]? = some x := by rw [List.getElem?_map, hkv] <;> rfl
    rw [hv, List.getElem?_map] at e1
    obtain ⟨j, hj, e2⟩ := Option.map_eq_some_iff.mp e1
    subst e2
    obtain ⟨t, e3⟩ := rv
    refine ⟨t, ?_⟩
    rw [hk, een, e3, List.getD_eq_getElem?_getD, hj] <;> rfl
  refine call_min_walk (wpAny_pyIter_values_raw (v := s1.heap.objs.size) (d := a) ⟨_, Heap.get?_push_size _ rfl, rfl, rfl⟩ raw1 ?_)
  have hlt : a < s1.heap.objs.size := Heap.lt_size ho
  have hsz1 : (s1.heap.push { cls := .type "dict_values", data := .fields #[.ref a] }).objs.size = s1.heap.objs.size + 1 := Heap.size_push _ _
  refine ⟨_, _, _, _, _, _, _, rfl, Walks.rawValues (A := X.A.in1) (I.ok.hd hc) (s1.heap.push { cls := .type "dict_values", data := .fields #[.ref a] }).objs.size a (by rw [hsz1]; exact Nat.ne_of_lt (Nat.lt_succ_of_lt hlt)) es ep,
    ⟨⟨_, Heap.get?_push_size _ rfl, rfl, rfl⟩, raw1.at fun o e => Heap.get?_push_of_some _ e⟩, fun b hb => ?_, hlen, CmpOf.ints_lt (fun i => is.getD i 0) hval, fun v h' tk hP hk => ?_⟩
  · show b < ((s1.heap.push _).push _).objs.size
    rw [Heap.size_push, Heap.size_push]
    rw [hsz1] at hb
    rcases List.mem_cons.mp hb with e | hb
    · rw [e]
      exact Nat.lt_succ_self _
    · have e : b = a := List.mem_singleton.mp hb
      rw [e]
      exact Nat.lt_succ_of_lt (Nat.lt_succ_of_lt hlt)
  · obtain ⟨t, rfl⟩ := hval _ v hP
    obtain ⟨b1, b2⟩ := argBest_lt (fun i => is.getD i 0) (es.size - 1)
    have hls : es.size = is.length := by omega
    refine ⟨.int _, H1, I1.kept (t' := tk) fun b u e => hk b u (fun hmem => ?_) (Heap.get?_push_of_some _ (k1 b u e)), ⟨t, rfl⟩, q _ ?_ fun j hj => ?_⟩
    · have e1 : b = (s1.heap.push { cls := .type "dict_values", data := .fields #[.ref a] }).objs.size := List.mem_singleton.mp hmem
      have e2 := Heap.lt_size e
      rw [hsz1] at e1
      rw [e1] at e2
      exact absurd e2 (Nat.not_lt.mpr (Nat.le_succ _))
    · have hb : argBest (fun i j => decide (is.getD i 0 < is.getD j 0)) (es.size - 1) < is.length := by omega
      rw [List.getD_eq_getElem?_getD, List.getElem?_eq_getElem hb]
      exact List.getElem_mem hb
    · obtain ⟨i, hi, e⟩ := List.mem_iff_getElem.mp hj
      have e2 : is.getD i 0 = j := by rw [List.getD_eq_getElem?_getD, List.getElem?_eq_getElem hi, ← e] <;> rfl
      rw [← e2]
      exact b2 i (by omega)
/-! ### d != {} -/
theorem same0 {prog : Program} {w : World} {A : Around} {E : Value → Shared → Prop} {s : Shared} {nm : String} {a b : Addr} {es : Array DictEntry} {ep ep' : Nat} {Q : Bool → Shared → Prop} (ha : (a == sysModules) = false) (hb : (b == sysModules) = false)
    (da : s.heap.DictRaw a es ep) (db : s.heap.DictRaw b #[] ep') (h : Q (es.size == 0) s) : wpAny (model prog w) A (Builtin.Dict.samePairs nm a b) Q E s := by
  obtain ⟨oa, hoa, _, hda⟩ := da
  obtain ⟨ob, hob, _, hdb⟩ := db
  unfold Builtin.Dict.samePairs Builtin.Dict.showsAll
  rw [if_neg (show ¬ (a == sysModules) = true by rw [ha]; exact Bool.false_ne_true), if_neg (show ¬ (b == sysModules) = true by rw [hb]; exact Bool.false_ne_true)]
  refine wpAny_bind (wpAny_pure (wpAny_bind (wpAny_pure ?_)))
  refine wpAny_bind (wpAny_dictEntries hoa hda ?_)
  dsimp only
  refine wpAny_bind (wpAny_dictEntries hob hdb ?_)
  by_cases hz : es.size = 0
  · rw [hz]
    rw [if_neg (by simp)]
    refine wpAny_bind (wpAny_dictEpoch hoa hda ?_)
    refine wpAny_bind ?_
    rw [hz] at h
    rw [Std.Legacy.Range.forIn_eq_forIn_range']
    simp only [Std.Legacy.Range.size, Nat.sub_zero, Nat.add_sub_cancel, Nat.div_one, List.range'_zero, List.forIn_nil]
    exact wpAny_pure (wpAny_pure h)
  · rw [if_pos (by simpa using hz)]
    have e : (es.size == 0) = false := by simpa using hz
    rw [e] at h
    exact wpAny_bind (wpAny_rule (wpAny_pure h))
def rNe0 : R2 := fun x y H Q => ∃ a b kvs, x = .ref a ∧ y = .ref b ∧ Rd H a (.dT kvs) ∧ H b = some (.dT []) ∧ Q (.bl (!decide (kvs = []))) H
theorem op_ne0 (hu : X.A.units + 64 < cLine) : OpR X (compareOp .NotEq) rNe0 := by
  intro pins s σ H x y v u Q I rx ry h
  obtain ⟨a, b, kvs, rfl, rfl, ha, hb, q⟩ := h
  obtain rfl : v = Value.ref a := rx
  obtain rfl : u = Value.ref b := ry
  obtain ⟨hsa, _, es, ep, ra, hsz, _, _⟩ := dT_raw I ha
  obtain ⟨hsb, _, es', ep', rb, hsz', _, _⟩ := dT_raw I (.inl hb)
  have e0 : es' = #[] := Array.eq_empty_of_size_eq_zero (by simpa using hsz')
  subst e0
  refine wpAny_richCompare_same_room (op := .NotEq) ra.typeIs rb.typeIs PySem.F.slot_dict_ne (wpAny_call_entry PySem.F.slot_dict_ne ra.typeIs PySem.F.entry_dict_ne ?_ (PySem.F.args_dict_ne_2 _ _)) (by omega)
  show wpAny _ _ (Builtin.Dict.dictSlotArgs "__ne__" ⟨[.ref a, .ref b], []⟩ >>= _) _ _ s
  refine wpAny_bind ?_
  unfold Builtin.Dict.dictSlotArgs
  refine wpAny_bind (wpAny_notOrdered_dict ra.typeIs ?_)
  show wpAny _ _ (pure (Value.ref a, Value.ref b)) _ _ s
  refine wpAny_pure ?_
  refine wpAny_bind (wpAny_isInstance (T := "dict") rb.typeIs PySem.F.sub_dict_dict ?_)
  simp only [Bool.not_true, Bool.false_eq_true, if_false]
  refine wpAny_bind (wpAny_pure (wpAny_bind (wpAny_pure ?_)))
  refine wpAny_bind (same0 hsa hsb ra rb ?_)
  refine wpAny_pure ⟨_, rfl, ?_, ?_⟩
  · exact fun x => nomatch x
  · refine ⟨.bl _, H, I, rfl, ?_⟩
    have e : ((es.size == 0) == false) = !decide (kvs = []) := by
      rw [hsz]
      cases kvs <;> simp
    rw [e]
    exact q
/-! ### {k: v}, k a tuple -/
def tDisp1T (tk tv : TE) : TE := fun σ H Q => ∀ p, H p = none → tk σ (upd H p (.dT [])) fun x H1 => tv σ H1 fun y H2 => H2 p = some (.dT []) ∧ ∃ (b : Addr) (k : TK), x = .ref b ∧ H2 b = some (.tup (k.map kV)) ∧ Q (.ref p) (upd H2 p (.dT [(k, y)]))
theorem pe_disp1T {k v : Expr} {tk tv : TE} (hu : X.A.units + 1 < cLine) (hk : PE X k tk) (hv : PE X v tv) : PE X (.Dict [some k] [v] pos) (tDisp1T tk tv) := by
  refine ⟨fun pins s σ H Q I q => ?_⟩
  have hn := I.hok.fresh (Nat.le_refl s.heap.objs.size)
  have I1 := I.laid (a := s.heap.objs.size) (o := .dT []) (h' := s.heap.push { cls := .type "dict", data := .dict #[] }) (t' := s.toks) (fun _ _ q => Heap.get?_push_of_some _ q) (Nat.le_refl _) (dt_empty s.heap I.big)
  refine wpAny_Dict_any rfl rfl (by simp) (by simp) ?_
  refine pairTrees_cons_walk (thn (hk.run pins _ σ _ _ I1 (q _ hn)) fun u s1 ⟨x, H1, I2, rx, q1⟩ => thn (hv.run pins s1 σ H1 _ I2 q1) fun w2 s2 ⟨y, H2, I3, ry, hp, b, kk, ex, hb, q2⟩ => pairTrees_nil_walk ?_)
  subst ex
  obtain rfl : u = Value.ref b := rx
  obtain ⟨z, hd, xs, rel, dd⟩ := dt_of I3.hok hp
  cases rel
  show wpAny _ _ (forIn [(Value.ref b, w2)] PUnit.unit fun (x : Value × Value) (_ : PUnit) => (do dictSet s.heap.objs.size x.1 x.2; pure (ForInStep.yield PUnit.unit) : Sem (ForInStep PUnit))) _ _ s2
  rw [List.forIn_cons]
  refine wpAny_bind (wpAny_bind (wpAny_dictSet_heap (hsz := Nat.zero_le _) (show (tupleKind (mixKind X.prog X.w)).room X.A from (by show X.A.units < cLine; omega)) (key_of I3.hok hb) dd fun h' dd' hs => wpAny_pure ?_))
  show wpAny _ _ (forIn [] PUnit.unit _) _ _ _
  rw [List.forIn_nil]
  refine wpAny_pure ?_
  obtain ⟨ob, es, ep, hq, h2, h3, h4, _, h5⟩ := dd'
  have I4 : Inv X pins σ (upd H2 s.heap.objs.size (.dT [(kk, y)])) { s2 with heap := h', toks := s2.toks + (tupleKind (mixKind X.prog X.w)).draws kk } := by
    refine d_write I3 (by rw [hp]; exact True.intro) hs ⟨ob, hq⟩ ⟨by show 1 ≤ sizeLine; decide, hd, _, ?_, ob, es, ep, hq, h2, h3, h4, h5⟩
    refine (KT.put (H := H2) (xs := []) (kvs := []) .nil kk hb ry).keeps fun c ys ec => ?_
    rw [upd_ne (ne_of ec hp (fun z => nomatch z))]
    exact ec
  exact ⟨.ref s.heap.objs.size, _, I4, rfl, q2⟩
end
end N

namespace N
open PySem L2 LamX
def top (i : Nat) : Stmt := PySem.Challenge.pw_nightsheld_k77_whole_inns_keep_their_wor.main.body.getD i (.Pass ⟨0, 0, 0, 0⟩)
/-! ### houses and stays, as plain data -/
abbrev Stay := Int × Int × Int
def houseD (h : List Int) : PyData := .tuple (h.map .int)
def HouseOk (h : List Int) : Prop := 1 ≤ h.length ∧ h.length ≤ 5 ∧ ∀ k ∈ h, 1 ≤ k ∧ k ≤ 3
def StayOk (s : Stay) : Prop := 1 ≤ s.1 ∧ s.1 ≤ 3 ∧ 0 ≤ s.2.1 ∧ s.2.1 ≤ 20 ∧ 1 ≤ s.2.2 ∧ s.2.2 ≤ 8
def fromK (ks : List Int) (k : Int) : Int := ((ks.filter fun o => decide (k ≤ o)).length : Int)
def kindsAt (st : List Stay) (n : Int) : List Int := (st.filter fun s => sleptBy s n).map (·.1)
def spare (h : List Int) (st : List Stay) (n k : Int) : Int := fromK h k - fromK (kindsAt st n) k
def kinds3 : List Int := [1, 2, 3]
def overK (h : List Int) (st : List Stay) (n : Int) : Option Int := kinds3.find? fun k => decide (spare h st n k < 0)
def overD (h : List Int) (st : List Stay) (n : Int) : PyData := match overK h st n with
  | none => .none
  | some k => .tuple [.int k, .int (fromK h k - spare h st n k), .int (fromK h k)]
def fitsB (h : List Int) (st : List Stay) : Bool := (nightsOf st).all fun n => (overK h st n).isNone
def fitsD (h : List Int) (st : List Stay) : PyData := match (nightsOf st).find? fun n => (overK h st n).isSome with
  | none => .tuple [.str "fits"]
  | some n => match overK h st n with
    | none => .tuple [.str "fits"]
    | some k => .tuple [.str "over", .int n, .int k, .int (fromK h k - spare h st n k), .int (fromK h k)]
/-! ### rules again, in handier words -/
section
variable {T : Tbl} {X : Cx} {δ : Sl} {a b c e tg : Expr} {es : List Expr} {pos p : Pos} {x : Str}
theorem ev_lcM {α : Type} {elt iter : Expr} {scope : Scope} (own : List (Str × Nat)) {js : List Nat} (xs : List α) (enc : α → PyData) (f : α → PyData) (hN : X.N.Nodup) (hok : blkC X.N X.env.scope scope own = true)
    (hi : Evi T X tg iter δ (xs.map enc)) (hz : xs.length ≤ 1000000) (turn : ∀ x ∈ xs, Turns T X scope (own.map (·.2)) tg [] elt δ js (enc x) true (f x)) (hjs : ∀ j ∈ js, j ∈ own.map (·.2) := by decide) (hc : X.calm = true := by rfl)
    (hs : ∀ x, foldedSetIterable iter X.env x = pure x := by intro _; rfl) : Ev T X (.ListComp elt [⟨tg, iter, [], 0⟩] scope pos) δ (.d (.list (xs.map f))) := by
  have h := ev_lc (pos := pos) own xs enc (fun _ => true) f hN hok hi hz turn hjs hc hs
  rwa [List.filter_eq_self.mpr (fun _ _ => rfl)] at h
theorem evs_lcM {α : Type} {elt iter : Expr} {scope : Scope} {y : Str} {py spos : Pos} (i : Nat) (own : List (Str × Nat)) {js : List Nat} (xs : List α) (enc : α → PyData) (f : α → PyData) (hN : X.N.Nodup) (hok : blkC X.N X.env.scope scope own = true)
    (hi : Evi T X tg iter δ (xs.map enc)) (hz : xs.length ≤ 1000000) (turn : ∀ x ∈ xs, Turns T X scope (own.map (·.2)) tg [] elt δ js (enc x) true (f x)) (hsw : swapsWith (.ListComp elt [⟨tg, iter, [], 0⟩] scope pos) (some (.Name y py)) spos.line X.env = pure true) (hjs : ∀ j ∈ js, j ∈ own.map (·.2) := by decide) (hc : X.calm = true := by rfl)
    (hs : ∀ x, foldedSetIterable iter X.env x = pure x := by intro _; rfl) (hy : X.N[i]? = some y := by rfl) (hyl : X.env.scope.names.lookup y = some .local := by rfl) :
    Evs T X (.Assign [.Name y py] (.ListComp elt [⟨tg, iter, [], 0⟩] scope pos) spos) δ (.nx (δ.set i (some (.d (.list (xs.map f)))))) := by
  have h := evs_lc i own xs enc (fun _ => true) f hN hok hi hz turn hsw hjs hc hs hy hyl
  rwa [List.filter_eq_self.mpr (fun _ _ => rfl)] at h
theorem ev_allM {α : Type} {xs : List α} {q : α → Bool} (B : Bn X.mg) (h : Ev T X a δ (.d (.list (xs.map fun x => .bool (q x))))) (hc : X.calm = true := by rfl) (hg : Gl X "all" := by rfl) (hs : starEach [a] X.env = (false, eval a X.env) :: starEach [] X.env := by rfl) : Ev T X (.Call (.Name "all" p) [a] [] pos) δ (.d (.bool (xs.all q))) := by
  have h2 := ev_all (p := p) (pos := pos) (bs := xs.map q) B (by rw [List.map_map]; exact h) hc hg hs
  refine ev_is h2 ?_
  rw [List.all_map]
  rfl
theorem ev_anyM {α : Type} {xs : List α} {q : α → Bool} (B : Bn X.mg) (h : Ev T X a δ (.d (.list (xs.map fun x => .bool (q x))))) (hc : X.calm = true := by rfl) (hg : Gl X "any" := by rfl) (hs : starEach [a] X.env = (false, eval a X.env) :: starEach [] X.env := by rfl) : Ev T X (.Call (.Name "any" p) [a] [] pos) δ (.d (.bool (xs.any q))) := by
  have h2 := ev_any (p := p) (pos := pos) (bs := xs.map q) B (by rw [List.map_map]; exact h) hc hg hs
  refine ev_is h2 ?_
  rw [List.any_map]
  rfl
/-- a turn with a target of one name -/
theorem turn1 {scope : Scope} {vs : List Nat} {ifs : List Expr} {elt : Expr} {y : Str} {d f : PyData} {q : Bool} (i : Nat) (hN : X.N.Nodup) (hi : X.N[i]? = some y) (hx : scope.names.lookup y = some .local)
    (h : ∀ (s : Shared) (H0 : Hp) (C : Addr) (cl : List (Str × Addr)) (fp : List Addr), Evts T (X.blk s H0 scope (compEnvC scope cl C X.env) fp) ifs ((wipeD δ vs).set i (some (.d d))) q ∧ (q = true → Ev T (X.blk s H0 scope (compEnvC scope cl C X.env) fp) elt ((wipeD δ vs).set i (some (.d d))) (.d f)))
    (hrel : ∀ (s : Shared) (H0 : Hp) (C : Addr) (cl : List (Str × Addr)) (fp : List Addr), (X.blk s H0 scope (compEnvC scope cl C X.env) fp).env.scope.names.lookup y = some .local) :
    Turns T X scope vs (.Name y p) ifs elt δ [i] d q f := ⟨_, fun s H0 C cl fp => ⟨evg_n i hN hi (.inl (hrel s H0 C cl fp)) (.inr (hrel s H0 C cl fp)), (h s H0 C cl fp).1, (h s H0 C cl fp).2⟩⟩
end
end N

namespace N
open PySem L2 LamX
def tW (X : Cx) (e : Expr) : L2.TT := fun σ H Q => ∀ (wh : Sem Value) pins s, Inv X pins σ H s → wpAny (model X.prog X.w) X.A (isTrue e X.env wh) (TP X pins σ Q) X.xe s
theorem pw_best {X : Cx} {e : Expr} : PW X e (tW X e) := ⟨fun wh pins s _ _ _ I h => h wh pins s I⟩
def Evw (T : Tbl) (X : Cx) (e : Expr) (δ : Sl) (b : Bool) : Prop := Et X.K T (tW X e) δ b
section
variable {T : Tbl} {X : Cx} {δ : Sl} {a b c e : Expr} {rest : List Expr} {i j : Int} {r : E} {pos p : Pos} {u v : Bool}
theorem evw_of {t : L2.TT} (h : PW X e t) (q : Et X.K T t δ u) : Evw T X e δ u := fun S σ H a Q k wh pins s I => h.run wh pins s σ H Q I (q S σ H a Q k)
theorem evt_w (h : Evw T X e δ u) : Evt T X e δ u := evt_of (PW.pt pw_best) h
theorem evw_and1 (h : Evt T X a δ u) : Evw T X (.BoolOp .And [a] pos) δ u := evw_of (pw_and1 pt_best') h
  where pt_best' : PT X a (tT X a) := pt_best X
theorem evw_or1 (h : Evt T X a δ u) : Evw T X (.BoolOp .Or [a] pos) δ u := evw_of (pw_or1 (pt_best X)) h
theorem evw_and (h : Evt T X a δ u) (h2 : u = true → Evw T X (.BoolOp .And (b :: rest) pos) δ v) : Evw T X (.BoolOp .And (a :: b :: rest) pos) δ (u && v) :=
  evw_of (pw_and (pt_best X) pw_best) fun S σ H ad Q k => h S σ H ad _ fun H1 g => by
    cases u with
    | true => exact h2 rfl S σ H1 (ad.grow g) Q fun H2 g2 => k H2 (g.trans g2)
    | false => exact k H1 g
theorem evw_or (h : Evt T X a δ u) (h2 : u = false → Evw T X (.BoolOp .Or (b :: rest) pos) δ v) : Evw T X (.BoolOp .Or (a :: b :: rest) pos) δ (u || v) :=
  evw_of (pw_or (pt_best X) pw_best) fun S σ H ad Q k => h S σ H ad _ fun H1 g => by
    cases u with
    | false => exact h2 rfl S σ H1 (ad.grow g) Q fun H2 g2 => k H2 (g.trans g2)
    | true => exact k H1 g
theorem evt_and (h : Evt T X a δ u) (h2 : u = true → Evt T X b δ v) : Evt T X (.BoolOp .And [a, b] pos) δ (u && v) := evt_w (evw_and h fun z => evw_and1 (h2 z))
theorem evt_or (h : Evt T X a δ u) (h2 : u = false → Evt T X b δ v) : Evt T X (.BoolOp .Or [a, b] pos) δ (u || v) := evt_w (evw_or h fun z => evw_or1 (h2 z))
theorem evt_cmp {op : CmpOp} {e1 e2 : E} {rr : R2} (ho : OpR X (compareOp op) rr) (h1 : Ev T X a δ e1) (h2 : Ev T X b δ e2)
    (q : ∀ (S : Addr → Prop) (H : Hp) (v w : V), Sok S H → Tabs T H → RE X.K S H v e1 → RE X.K S H w e2 → ∀ Q : VK, (∀ z H', Gr T H H' → RE X.K S H' z (.d (.bool u)) → Q z H') → rr v w H Q) (hm : behindInMarks op b = false) : Evt T X (.Compare a [op] [b] pos) δ u :=
  evt_of (pt_cmpR ho (pe_best X) (pe_best X) hm) fun S σ H ad Q k => (ed_op h1 h2 q) S σ H ad _ fun z H1 g r1 => ⟨u, Rp.bl_inv r1, k H1 g⟩
theorem evt_lt (h1 : Ev T X a δ (.d (.int i))) (h2 : Ev T X b δ (.d (.int j))) : Evt T X (.Compare a [.Lt] [b] pos) δ (decide (i < j)) :=
  evt_cmp op_lt h1 h2 (fun S H v w _ _ r1 r2 Q k => ⟨i, j, Rp.int_inv r1, Rp.int_inv r2, k _ H (Gr.refl H) (Rp.bl _)⟩) (nomark _)
theorem evt_le (h1 : Ev T X a δ (.d (.int i))) (h2 : Ev T X b δ (.d (.int j))) : Evt T X (.Compare a [.LtE] [b] pos) δ (decide (i ≤ j)) :=
  evt_cmp op_le h1 h2 (fun S H v w _ _ r1 r2 Q k => ⟨i, j, Rp.int_inv r1, Rp.int_inv r2, k _ H (Gr.refl H) (Rp.bl _)⟩) (nomark _)
theorem evt_gt (h1 : Ev T X a δ (.d (.int i))) (h2 : Ev T X b δ (.d (.int j))) : Evt T X (.Compare a [.Gt] [b] pos) δ (decide (j < i)) :=
  evt_cmp op_gt h1 h2 (fun S H v w _ _ r1 r2 Q k => ⟨i, j, Rp.int_inv r1, Rp.int_inv r2, k _ H (Gr.refl H) (Rp.bl _)⟩) (nomark _)
theorem evt_ge (h1 : Ev T X a δ (.d (.int i))) (h2 : Ev T X b δ (.d (.int j))) : Evt T X (.Compare a [.GtE] [b] pos) δ (decide (j ≤ i)) :=
  evt_cmp op_ge h1 h2 (fun S H v w _ _ r1 r2 Q k => ⟨i, j, Rp.int_inv r1, Rp.int_inv r2, k _ H (Gr.refl H) (Rp.bl _)⟩) (nomark _)
theorem evt_eq (h1 : Ev T X a δ (.d (.int i))) (h2 : Ev T X b δ (.d (.int j))) : Evt T X (.Compare a [.Eq] [b] pos) δ (decide (i = j)) :=
  evt_cmp op_eq h1 h2 (fun S H v w _ _ r1 r2 Q k => by
    cases Rp.int_inv r1; cases Rp.int_inv r2
    exact ⟨rfl, by rw [decV_int]; exact k _ H (Gr.refl H) (Rp.bl _)⟩) (nomark _)
theorem evt_ne (h1 : Ev T X a δ (.d (.int i))) (h2 : Ev T X b δ (.d (.int j))) : Evt T X (.Compare a [.NotEq] [b] pos) δ (!decide (i = j)) :=
  evt_cmp op_ne h1 h2 (fun S H v w _ _ r1 r2 Q k => by
    cases Rp.int_inv r1; cases Rp.int_inv r2
    exact ⟨rfl, by rw [decV_int]; exact k _ H (Gr.refl H) (Rp.bl _)⟩) (nomark _)
theorem evt_neB {i j : Bool} (h1 : Ev T X a δ (.d (.bool i))) (h2 : Ev T X b δ (.d (.bool j))) : Evt T X (.Compare a [.NotEq] [b] pos) δ (!decide (i = j)) :=
  evt_cmp op_ne h1 h2 (fun S H v w _ _ r1 r2 Q k => by
    cases Rp.bl_inv r1; cases Rp.bl_inv r2
    exact ⟨rfl, by rw [decV_bl]; exact k _ H (Gr.refl H) (Rp.bl _)⟩) (nomark _)
theorem evt_isN {j : Nat} {e : E} {pos' : Pos} (h1 : Ev T X a δ e) : Evt T X (.Compare a [.Is] [.Constant .none j pos'] pos) δ (isNo e) :=
  evt_of (pt_cmp (pc_isN (pe_best X))) fun S σ H ad Q k => h1 S σ H ad _ fun v H1 g r => ⟨_, rfl, by rw [r.isNo]; exact k H1 g⟩
theorem evt_notN {j : Nat} {e : E} {pos' : Pos} (h1 : Ev T X a δ e) : Evt T X (.Compare a [.IsNot] [.Constant .none j pos'] pos) δ (!isNo e) :=
  evt_of (pt_cmp (pc_notN (pe_best X))) fun S σ H ad Q k => h1 S σ H ad _ fun v H1 g r => ⟨_, rfl, by rw [r.isNo]; exact k H1 g⟩
theorem evt_eqD {d1 d2 : PyData} (hu : X.A.units + 64 < cLine) (h1 : Ev T X a δ (.d d1)) (h2 : Ev T X b δ (.d d2)) (s1 : SeqAt.shaped d1 = true) (s2 : SeqAt.shaped d2 = true) : Evt T X (.Compare a [.Eq] [b] pos) δ (PyData.eqv d1 d2) :=
  evt_cmp (op_eqD hu) h1 h2 (fun S H v w _ _ r1 r2 Q k => ⟨d1, d2, Rp.dp r1, Rp.dp r2, s1, s2, k _ H (Gr.refl H) (Rp.bl _)⟩) (nomark _)
theorem evt_neD {d1 d2 : PyData} (hu : X.A.units + 64 < cLine) (h1 : Ev T X a δ (.d d1)) (h2 : Ev T X b δ (.d d2)) (s1 : SeqAt.shaped d1 = true) (s2 : SeqAt.shaped d2 = true) : Evt T X (.Compare a [.NotEq] [b] pos) δ (!PyData.eqv d1 d2) :=
  evt_cmp (op_neD hu) h1 h2 (fun S H v w _ _ r1 r2 Q k => ⟨d1, d2, Rp.dp r1, Rp.dp r2, s1, s2, k _ H (Gr.refl H) (Rp.bl _)⟩) (nomark _)
theorem evt_ninT {n : Int} {ns : List Int} (h1 : Ev T X a δ (.d (.int n))) (h2 : Ev T X b δ (.d (.tuple (ns.map .int)))) (hm : behindInMarks .NotIn b = false := by rfl) : Evt T X (.Compare a [.NotIn] [b] pos) δ (!decide (n ∈ ns)) :=
  evt_cmp op_notIn_seq h1 h2 (fun S H v w _ _ r1 r2 Q k => by
    cases Rp.int_inv r1
    cases r2 with
    | tup hq ha =>
      have e := ha.ints
      subst e
      refine ⟨_, _, rfl, .inr hq, rfl, flat_ints, ?_⟩
      rw [inV_int]
      exact k _ H (Gr.refl H) (Rp.bl _)) hm
theorem evt_inT {n : Int} {ns : List Int} (h1 : Ev T X a δ (.d (.int n))) (h2 : Ev T X b δ (.d (.tuple (ns.map .int)))) (hm : behindInMarks .In b = false := by rfl) : Evt T X (.Compare a [.In] [b] pos) δ (decide (n ∈ ns)) :=
  evt_cmp op_in_seq h1 h2 (fun S H v w _ _ r1 r2 Q k => by
    cases Rp.int_inv r1
    cases r2 with
    | tup hq ha =>
      have e := ha.ints
      subst e
      refine ⟨_, _, rfl, .inr hq, rfl, flat_ints, ?_⟩
      rw [inV_int]
      exact k _ H (Gr.refl H) (Rp.bl _)) hm
theorem atI_nat {α : Type} {xs : List α} {i : Int} (h0 : 0 ≤ i) (h1 : i < (xs.length : Int)) : atI xs i = xs[i.toNat]? := by
  unfold atI ixN
  rw [if_pos h0, if_pos h1]
  rfl
end
end N

namespace N
open PySem L2 LamX
theorem sc_is_whole : FnScope ["thing"] ["thing"] (defScope (top 19)) := ⟨rfl, rfl, rfl, by decide +kernel, rfl, by decide +kernel, by decide +kernel⟩
theorem sc_is_among : FnScope ["thing", "low", "high"] ["thing", "low", "high"] (defScope (top 20)) := ⟨rfl, rfl, rfl, by decide +kernel, rfl, by decide +kernel, by decide +kernel⟩
theorem sc_is_row : FnScope ["thing", "low", "high"] ["thing", "low", "high"] (defScope (top 21)) := ⟨rfl, rfl, rfl, by decide +kernel, rfl, by decide +kernel, by decide +kernel⟩
theorem sc_is_kind : FnScope ["thing"] ["thing"] (defScope (top 22)) := ⟨rfl, rfl, rfl, by decide +kernel, rfl, by decide +kernel, by decide +kernel⟩
theorem sc_is_house : FnScope ["thing", "room"] ["thing"] (defScope (top 23)) := ⟨rfl, rfl, rfl, by decide +kernel, rfl, by decide +kernel, by decide +kernel⟩
theorem sc_is_stay : FnScope ["thing"] ["thing"] (defScope (top 24)) := ⟨rfl, rfl, rfl, by decide +kernel, rfl, by decide +kernel, by decide +kernel⟩
theorem sc_are_stays : FnScope ["thing", "stay"] ["thing"] (defScope (top 25)) := ⟨rfl, rfl, rfl, by decide +kernel, rfl, by decide +kernel, by decide +kernel⟩
theorem sc_need_house : FnScope ["thing"] ["thing"] (defScope (top 26)) := ⟨rfl, rfl, rfl, by decide +kernel, rfl, by decide +kernel, by decide +kernel⟩
theorem sc_need_stay : FnScope ["thing"] ["thing"] (defScope (top 27)) := ⟨rfl, rfl, rfl, by decide +kernel, rfl, by decide +kernel, by decide +kernel⟩
theorem sc_need_stays : FnScope ["thing"] ["thing"] (defScope (top 28)) := ⟨rfl, rfl, rfl, by decide +kernel, rfl, by decide +kernel, by decide +kernel⟩
theorem sc_need_night : FnScope ["thing"] ["thing"] (defScope (top 29)) := ⟨rfl, rfl, rfl, by decide +kernel, rfl, by decide +kernel, by decide +kernel⟩
theorem sc_need_kind : FnScope ["thing"] ["thing"] (defScope (top 30)) := ⟨rfl, rfl, rfl, by decide +kernel, rfl, by decide +kernel, by decide +kernel⟩
theorem sc_need_nights : FnScope ["thing"] ["thing"] (defScope (top 31)) := ⟨rfl, rfl, rfl, by decide +kernel, rfl, by decide +kernel, by decide +kernel⟩
theorem sc_sleeps : FnScope ["stay", "night", "kind", "first", "nights"] ["stay", "night"] (defScope (top 32)) := ⟨rfl, rfl, rfl, by decide +kernel, rfl, by decide +kernel, by decide +kernel⟩
theorem sc_may_sleep : FnScope ["house", "stay", "room"] ["house", "stay", "room"] (defScope (top 33)) := ⟨rfl, rfl, rfl, by decide +kernel, rfl, by decide +kernel, by decide +kernel⟩
def ndB (l : List Str) : Bool := decide l.Nodup
theorem nd_ok {l : List Str} (h : ndB l = true) : l.Nodup := of_decide_eq_true h
/-- the module's constants -/
structure Cn (mg : Str → Option Value) : Prop where
  rooms : ∃ t, mg "MOST_ROOMS" = some (.int 5 t)
  kind : ∃ t, mg "MOST_KIND" = some (.int 3 t)
  first : ∃ t, mg "MOST_FIRST" = some (.int 20 t)
  nights : ∃ t, mg "MOST_NIGHTS" = some (.int 8 t)
  stays : ∃ t, mg "MOST_STAYS" = some (.int 8 t)
  last : ∃ t, mg "LAST_NIGHT" = some (.int 40 t)
  fits : ∃ t, mg "FITS" = some (.str "fits" t)
  over : ∃ t, mg "OVER" = some (.str "over" t)
  plan : ∃ t, mg "PLAN" = some (.str "plan" t)
  none' : ∃ t, mg "NONE" = some (.str "none" t)
  kept : ∃ t, mg "MOST_KEPT" = some (.int 8 t)
def amongB (i lo hi : Int) : Bool := decide (lo ≤ i) && decide (i ≤ hi)
def rowB (n : Nat) (lo hi : Int) : Bool := decide (lo ≤ (n : Int)) && decide ((n : Int) ≤ hi)
def kindB (i : Int) : Bool := amongB i 1 3
def houseB (h : List Int) : Bool := rowB h.length 1 5 && h.all kindB
def stayB (s : Stay) : Bool := kindB s.1 && (amongB s.2.1 0 20 && amongB s.2.2 1 8)
def staysOkB (st : List Stay) : Bool := rowB st.length 0 8 && st.all stayB
theorem houseB_of {h : List Int} (k : HouseOk h) : houseB h = true := by
  obtain ⟨h1, h2, h3⟩ := k
  unfold houseB rowB
  rw [Bool.and_eq_true, Bool.and_eq_true]
  refine ⟨⟨decide_eq_true (by omega), decide_eq_true (by omega)⟩, List.all_eq_true.mpr fun x hx => ?_⟩
  have := h3 x hx
  unfold kindB amongB
  simp [this]
theorem stayB_of {s : Stay} (k : StayOk s) : stayB s = true := by
  obtain ⟨h1, h2, h3, h4, h5, h6⟩ := k
  unfold stayB kindB amongB
  simp [h1, h2, h3, h4, h5, h6]
theorem staysOkB_of {st : List Stay} (hl : st.length ≤ 8) (k : ∀ s ∈ st, StayOk s) : staysOkB st = true := by
  unfold staysOkB rowB
  rw [Bool.and_eq_true, Bool.and_eq_true]
  exact ⟨⟨decide_eq_true (by omega), decide_eq_true (by omega)⟩, List.all_eq_true.mpr fun x hx => stayB_of (k x hx)⟩
section
variable (K : PySem.W.Frag) (T : Tbl)
abbrev sp_is_whole : Sp := spN (α := Int) K T (fun i => [.d (.int i)]) (fun _ => True) (fun _ => .d (.bool true))
abbrev sp_is_among : Sp := spN (α := Int × Int × Int) K T (fun a => [.d (.int a.1), .d (.int a.2.1), .d (.int a.2.2)]) (fun _ => True) (fun a => .d (.bool (amongB a.1 a.2.1 a.2.2)))
abbrev sp_is_row : Sp := spN (α := List PyData × Int × Int) K T (fun a => [.d (.tuple a.1), .d (.int a.2.1), .d (.int a.2.2)]) (fun _ => True) (fun a => .d (.bool (rowB a.1.length a.2.1 a.2.2)))
abbrev sp_is_kind : Sp := spN (α := Int) K T (fun i => [.d (.int i)]) (fun _ => True) (fun i => .d (.bool (kindB i)))
abbrev sp_is_house : Sp := spN (α := List Int) K T (fun h => [.d (houseD h)]) (fun h => h.length ≤ 1000) (fun h => .d (.bool (houseB h)))
abbrev sp_is_stay : Sp := spN (α := Stay) K T (fun h => [.d (stayD h)]) (fun h => True) (fun h => .d (.bool (stayB h)))
abbrev sp_are_stays : Sp := spN (α := List Stay) K T (fun h => [.d (staysD h)]) (fun h => h.length ≤ 1000) (fun h => .d (.bool (staysOkB h)))
abbrev sp_need_house : Sp := spN (α := List Int) K T (fun h => [.d (houseD h)]) HouseOk (fun h => .d .none)
abbrev sp_need_stay : Sp := spN (α := Stay) K T (fun h => [.d (stayD h)]) StayOk (fun h => .d .none)
abbrev sp_need_stays : Sp := spN (α := List Stay) K T (fun h => [.d (staysD h)]) (fun st => st.length ≤ 8 ∧ ∀ s ∈ st, StayOk s) (fun h => .d .none)
abbrev sp_need_night : Sp := spN (α := Int) K T (fun i => [.d (.int i)]) (fun i => 0 ≤ i ∧ i ≤ 40) (fun _ => .d .none)
abbrev sp_need_kind : Sp := spN (α := Int) K T (fun i => [.d (.int i)]) (fun i => 1 ≤ i ∧ i ≤ 3) (fun _ => .d .none)
abbrev sp_need_nights : Sp := spN (α := Int) K T (fun i => [.d (.int i)]) (fun i => 1 ≤ i ∧ i ≤ 8) (fun _ => .d .none)
abbrev sp_sleeps : Sp := spN (α := Stay × Int) K T (fun a => [.d (stayD a.1), .d (.int a.2)]) (fun _ => True) (fun a => .d (.bool (sleptBy a.1 a.2)))
abbrev sp_may_sleep : Sp := spN (α := List Int × Stay × Int) K T (fun a => [.d (houseD a.1), .d (stayD a.2.1), .d (.int a.2.2)]) (fun a => 0 ≤ a.2.2 ∧ a.2.2 < (a.1.length : Int)) (fun a => .d (.bool (decide (a.2.1.1 ≤ a.1.getD a.2.2.toNat 0))))
end
section
variable {P : Program} {w : World} {K : PySem.W.Frag} {mg : Str → Option Value} {base : Heap} {T : Tbl} {f : Addr} {fd : FuncData}
theorem ok_is_whole (F : Fun K "is_whole" "is_whole" (top 19) f fd) (B : Bn mg) : FnOk P w K mg base CX0 1 f fd ["thing"] (sp_is_whole K T) := by
  refine fn_mkN F sc_is_whole (fun _ => rfl) fun cdv A outer s H E hr i _ => ⟨.rt (.d (.bool true)), ?_, rfl⟩
  exact evb_one (evs_ret (ev_is (ev_and (ev_isInt (u := true) B (ev_n 0)) fun _ => ev_one (ev_not (ev_isBool (u := false) B (ev_n 0)))) rfl))
theorem ok_is_among (F : Fun K "is_among" "is_among" (top 20) f fd) (D1 : Dfn P w K mg base "is_whole" 1 ["thing"] (sp_is_whole K T)) : FnOk P w K mg base CX0 2 f fd ["thing", "low", "high"] (sp_is_among K T) := by
  refine fn_mkN F sc_is_among (fun _ => rfl) fun cdv A outer s H E hr a _ => ⟨.rt (.d (.bool (amongB a.1 a.2.1 a.2.2))), ?_, rfl⟩
  refine evb_one (evs_ret (ev_is (ev_and (u := true) (v := amongB a.1 a.2.1 a.2.2) ?_ fun _ => ev_one ?_) (by rw [Bool.true_and])))
  · exact ev_callI D1 hr a.1 (eva_cons (ev_n 0) eva_nil) trivial rfl
  · exact ev_leLe (ev_n 1) (ev_n 0) (ev_n 2)
theorem ok_is_row (F : Fun K "is_row" "is_row" (top 21) f fd) (B : Bn mg) : FnOk P w K mg base CX0 1 f fd ["thing", "low", "high"] (sp_is_row K T) := by
  refine fn_mkN F sc_is_row (fun _ => rfl) fun cdv A outer s H E hr a _ => ⟨.rt (.d (.bool (rowB a.1.length a.2.1 a.2.2))), ?_, rfl⟩
  exact evb_one (evs_ret (ev_is (ev_and (ev_isTup (u := true) B (ev_n 0)) fun _ => ev_one (ev_leLe (ev_n 1) (ev_lenT B (ev_n 0)) (ev_n 2))) (by rw [Bool.true_and]; rfl)))
theorem ok_is_kind (F : Fun K "is_kind" "is_kind" (top 22) f fd) (C : Cn mg) (D1 : Dfn P w K mg base "is_among" 2 ["thing", "low", "high"] (sp_is_among K T)) : FnOk P w K mg base CX0 3 f fd ["thing"] (sp_is_kind K T) := by
  refine fn_mkN F sc_is_kind (fun _ => rfl) fun cdv A outer s H E hr a _ => ⟨.rt (.d (.bool (kindB a))), ?_, rfl⟩
  exact evb_one (evs_ret (ev_callI D1 hr (a, 1, 3) (eva_cons (ev_n 0) (eva_cons ev_i (eva_cons (ev_gi C.kind) eva_nil))) trivial rfl))
theorem ok_is_house (F : Fun K "is_house" "is_house" (top 23) f fd) (C : Cn mg) (B : Bn mg) (D1 : Dfn P w K mg base "is_row" 1 ["thing", "low", "high"] (sp_is_row K T)) (D2 : Dfn P w K mg base "is_kind" 3 ["thing"] (sp_is_kind K T)) : FnOk P w K mg base CX0 4 f fd ["thing"] (sp_is_house K T) := by
  refine fn_mkN F sc_is_house (fun _ => rfl) fun cdv A outer s H E hr a hp => ⟨.rt (.d (.bool (houseB a))), ?_, rfl⟩
  refine evb_one (evs_ret (ev_is (ev_and (u := rowB (a.map PyData.int).length 1 5) (v := a.all kindB) ?_ fun _ => ev_one ?_) ?_))
  · exact ev_callI D1 (hr.mono (by decide)) (a.map .int, 1, 5) (eva_cons (ev_n 0) (eva_cons ev_i (eva_cons (ev_gi C.rooms) eva_nil))) trivial rfl
  · refine ev_allM (q := kindB) B (ev_lcM (js := [1]) [("room", 1)] a .int (fun x => .bool (kindB x)) (nd_ok rfl) rfl (evi_tup (ev_n 0)) (Nat.le_trans hp (by decide)) fun x _ => ?_)
    exact ⟨_, fun s H0 C' cl fp => ⟨evg_n 1 (nd_ok rfl), evts_nil, fun _ => ev_callI D2 hr x (eva_cons (ev_n 1) eva_nil) trivial rfl⟩⟩
  · unfold houseB
    rw [List.length_map]
theorem ok_is_stay (F : Fun K "is_stay" "is_stay" (top 24) f fd) (C : Cn mg) (D1 : Dfn P w K mg base "is_row" 1 ["thing", "low", "high"] (sp_is_row K T)) (D2 : Dfn P w K mg base "is_kind" 3 ["thing"] (sp_is_kind K T)) (D3 : Dfn P w K mg base "is_among" 2 ["thing", "low", "high"] (sp_is_among K T)) : FnOk P w K mg base CX0 4 f fd ["thing"] (sp_is_stay K T) := by
  refine fn_mkN F sc_is_stay (fun _ => rfl) fun cdv A outer s H E hr a hp => ⟨.rt (.d (.bool (stayB a))), ?_, rfl⟩
  cases hk : kindB a.1 with
  | false =>
    have e : stayB a = false := by unfold stayB; rw [hk]; rfl
    rw [e]
    refine evb_out (evs_if (u := true) (evt_is (evt_or (u := !rowB 3 3 3) (v := !kindB a.1) (evt_not (evt_v ?_)) fun _ => evt_not (evt_v ?_)) (by rw [hk]; rfl)) (fun _ => evb_one (evs_ret ev_b)) (fun z => by cases z)) rfl
    · exact ev_callI D1 (hr.mono (by decide)) ([.int a.1, .int a.2.1, .int a.2.2], 3, 3) (eva_cons (ev_n 0) (eva_cons ev_i (eva_cons ev_i eva_nil))) trivial rfl
    · exact ev_callI D2 hr a.1 (eva_cons (ev_ixT (ev_n 0) ev_i rfl) eva_nil) trivial rfl
  | true =>
    refine evb_cons (evs_if (u := false) (z := .nx _) (evt_is (evt_or (u := !rowB 3 3 3) (v := !kindB a.1) (evt_not (evt_v ?_)) fun _ => evt_not (evt_v ?_)) (by rw [hk]; rfl)) (fun z => by cases z) (fun _ => evb_nil)) ?_
    · exact ev_callI D1 (hr.mono (by decide)) ([.int a.1, .int a.2.1, .int a.2.2], 3, 3) (eva_cons (ev_n 0) (eva_cons ev_i (eva_cons ev_i eva_nil))) trivial rfl
    · exact ev_callI D2 hr a.1 (eva_cons (ev_ixT (ev_n 0) ev_i rfl) eva_nil) trivial rfl
    · refine evb_one (evs_ret (ev_is (ev_and (u := amongB a.2.1 0 20) (v := amongB a.2.2 1 8) ?_ fun _ => ev_one ?_) ?_))
      · exact ev_callI D3 (hr.mono (by decide)) (a.2.1, 0, 20) (eva_cons (ev_ixT (ev_n 0) ev_i rfl) (eva_cons ev_i (eva_cons (ev_gi C.first) eva_nil))) trivial rfl
      · exact ev_callI D3 (hr.mono (by decide)) (a.2.2, 1, 8) (eva_cons (ev_ixT (ev_n 0) ev_i rfl) (eva_cons ev_i (eva_cons (ev_gi C.nights) eva_nil))) trivial rfl
      · unfold stayB
        rw [hk]
        rfl
theorem ok_are_stays (F : Fun K "are_stays" "are_stays" (top 25) f fd) (C : Cn mg) (B : Bn mg) (D1 : Dfn P w K mg base "is_row" 1 ["thing", "low", "high"] (sp_is_row K T)) (D2 : Dfn P w K mg base "is_stay" 4 ["thing"] (sp_is_stay K T)) : FnOk P w K mg base CX0 5 f fd ["thing"] (sp_are_stays K T) := by
  refine fn_mkN F sc_are_stays (fun _ => rfl) fun cdv A outer s H E hr a hp => ⟨.rt (.d (.bool (staysOkB a))), ?_, rfl⟩
  refine evb_one (evs_ret (ev_is (ev_and (u := rowB (a.map stayD).length 0 8) (v := a.all stayB) ?_ fun _ => ev_one ?_) ?_))
  · exact ev_callI D1 (hr.mono (by decide)) (a.map stayD, 0, 8) (eva_cons (ev_n 0) (eva_cons ev_i (eva_cons (ev_gi C.stays) eva_nil))) trivial rfl
  · refine ev_allM (q := stayB) B (ev_lcM (js := [1]) [("stay", 1)] a stayD (fun x => .bool (stayB x)) (nd_ok rfl) rfl (evi_tup (ev_n 0)) (Nat.le_trans hp (by decide)) fun x _ => ?_)
    exact ⟨_, fun s H0 C' cl fp => ⟨evg_n 1 (nd_ok rfl), evts_nil, fun _ => ev_callI D2 hr x (eva_cons (ev_n 1) eva_nil) trivial rfl⟩⟩
  · unfold staysOkB
    rw [List.length_map]
theorem ok_need_house (F : Fun K "need_house" "need_house" (top 26) f fd) (D1 : Dfn P w K mg base "is_house" 4 ["thing"] (sp_is_house K T)) : FnOk P w K mg base CX0 5 f fd ["thing"] (sp_need_house K T) := by
  refine fn_mkN F sc_need_house (fun _ => rfl) fun cdv A outer s H E hr a hp => ⟨.nx [some (.d (houseD a))], ?_, rfl⟩
  refine evb_one (evs_if (u := false) (evt_not (u := true) (evt_v ?_)) (fun z => by cases z) (fun _ => evb_nil))
  exact ev_callI D1 hr a (eva_cons (ev_n 0) eva_nil) (Nat.le_trans hp.2.1 (by decide)) (by rw [houseB_of hp])
theorem ok_need_stay (F : Fun K "need_stay" "need_stay" (top 27) f fd) (D1 : Dfn P w K mg base "is_stay" 4 ["thing"] (sp_is_stay K T)) : FnOk P w K mg base CX0 5 f fd ["thing"] (sp_need_stay K T) := by
  refine fn_mkN F sc_need_stay (fun _ => rfl) fun cdv A outer s H E hr a hp => ⟨.nx [some (.d (stayD a))], ?_, rfl⟩
  refine evb_one (evs_if (u := false) (evt_not (u := true) (evt_v ?_)) (fun z => by cases z) (fun _ => evb_nil))
  exact ev_callI D1 hr a (eva_cons (ev_n 0) eva_nil) trivial (by rw [stayB_of hp])
theorem ok_need_stays (F : Fun K "need_stays" "need_stays" (top 28) f fd) (D1 : Dfn P w K mg base "are_stays" 5 ["thing"] (sp_are_stays K T)) : FnOk P w K mg base CX0 6 f fd ["thing"] (sp_need_stays K T) := by
  refine fn_mkN F sc_need_stays (fun _ => rfl) fun cdv A outer s H E hr a hp => ⟨.nx [some (.d (staysD a))], ?_, rfl⟩
  refine evb_one (evs_if (u := false) (evt_not (u := true) (evt_v ?_)) (fun z => by cases z) (fun _ => evb_nil))
  exact ev_callI D1 hr a (eva_cons (ev_n 0) eva_nil) (Nat.le_trans hp.1 (by decide)) (by rw [staysOkB_of hp.1 hp.2])
theorem ok_need_night (F : Fun K "need_night" "need_night" (top 29) f fd) (C : Cn mg) (D1 : Dfn P w K mg base "is_among" 2 ["thing", "low", "high"] (sp_is_among K T)) : FnOk P w K mg base CX0 3 f fd ["thing"] (sp_need_night K T) := by
  refine fn_mkN F sc_need_night (fun _ => rfl) fun cdv A outer s H E hr a hp => ⟨.nx [some (.d (.int a))], ?_, rfl⟩
  refine evb_one (evs_if (u := false) (evt_not (u := true) (evt_v ?_)) (fun z => by cases z) (fun _ => evb_nil))
  exact ev_callI D1 hr (a, 0, 40) (eva_cons (ev_n 0) (eva_cons ev_i (eva_cons (ev_gi C.last) eva_nil))) trivial (by unfold amongB; simp [hp])
theorem ok_need_kind (F : Fun K "need_kind" "need_kind" (top 30) f fd) (D1 : Dfn P w K mg base "is_kind" 3 ["thing"] (sp_is_kind K T)) : FnOk P w K mg base CX0 4 f fd ["thing"] (sp_need_kind K T) := by
  refine fn_mkN F sc_need_kind (fun _ => rfl) fun cdv A outer s H E hr a hp => ⟨.nx [some (.d (.int a))], ?_, rfl⟩
  refine evb_one (evs_if (u := false) (evt_not (u := true) (evt_v ?_)) (fun z => by cases z) (fun _ => evb_nil))
  exact ev_callI D1 hr a (eva_cons (ev_n 0) eva_nil) trivial (by unfold kindB amongB; simp [hp])
theorem ok_need_nights (F : Fun K "need_nights" "need_nights" (top 31) f fd) (C : Cn mg) (D1 : Dfn P w K mg base "is_among" 2 ["thing", "low", "high"] (sp_is_among K T)) : FnOk P w K mg base CX0 3 f fd ["thing"] (sp_need_nights K T) := by
  refine fn_mkN F sc_need_nights (fun _ => rfl) fun cdv A outer s H E hr a hp => ⟨.nx [some (.d (.int a))], ?_, rfl⟩
  refine evb_one (evs_if (u := false) (evt_not (u := true) (evt_v ?_)) (fun z => by cases z) (fun _ => evb_nil))
  exact ev_callI D1 hr (a, 1, 8) (eva_cons (ev_n 0) (eva_cons ev_i (eva_cons (ev_gi C.nights) eva_nil))) trivial (by unfold amongB; simp [hp])
theorem ok_sleeps (F : Fun K "sleeps" "sleeps" (top 32) f fd) : FnOk P w K mg base CX0 1 f fd ["stay", "night"] (sp_sleeps K T) := by
  refine fn_mkN F sc_sleeps (fun _ => rfl) fun cdv A outer s H E hr a hp => ⟨.rt (.d (.bool (sleptBy a.1 a.2))), ?_, rfl⟩
  refine evb_cons (evs_asg (ev_n 0) (evg_tup (evgs_cons (evg_n 2 (nd_ok rfl)) (evgs_cons (evg_n 3 (nd_ok rfl)) (evgs_cons (evg_n 4 (nd_ok rfl)) evgs_nil))))) ?_
  exact evb_one (evs_ret (ev_leLt (ev_n 3) (ev_n 1) (ev_add (ev_n 3) (ev_n 4))))
theorem ok_may_sleep (F : Fun K "may_sleep" "may_sleep" (top 33) f fd) : FnOk P w K mg base CX0 1 f fd ["house", "stay", "room"] (sp_may_sleep K T) := by
  refine fn_mkN F sc_may_sleep (fun _ => rfl) fun cdv A outer s H E hr a hp => ⟨.rt (.d (.bool (decide (a.2.1.1 ≤ a.1.getD a.2.2.toNat 0)))), ?_, rfl⟩
  refine evb_one (evs_ret (ev_le (ev_ixT (ev_n 1) ev_i rfl) (ev_ixT (ev_n 0) (ev_n 2) ?_)))
  have hl : a.2.2.toNat < a.1.length := by omega
  rw [atI_nat hp.1 (by rw [List.length_map]; exact hp.2), List.getElem?_map, List.getElem?_eq_getElem hl, List.getD_eq_getElem?_getD, List.getElem?_eq_getElem hl]
  rfl
end
end N

namespace N
open PySem L2 LamX
theorem sc_from_kind : FnScope ["kinds", "kind", "one"] ["kinds", "kind"] (defScope (top 37)) := ⟨rfl, rfl, rfl, by decide +kernel, rfl, by decide +kernel, by decide +kernel⟩
theorem sc_spare_by : FnScope ["house", "stays", "night", "kinds", "stay", "kind"] ["house", "stays", "night"] (defScope (top 38)) := ⟨rfl, rfl, rfl, by decide +kernel, rfl, by decide +kernel, by decide +kernel⟩
theorem sc_over_by : FnScope ["house", "stays", "night", "kind", "spare", "rooms"] ["house", "stays", "night"] (defScope (top 39)) := ⟨rfl, rfl, rfl, by decide +kernel, rfl, by decide +kernel, by decide +kernel⟩
theorem sc_nights_of : FnScope ["stays", "kind", "first", "nights", "turn"] ["stays"] (defScope (top 40)) := ⟨rfl, rfl, rfl, by decide +kernel, rfl, by decide +kernel, by decide +kernel⟩
theorem sc_fits_by : FnScope ["house", "stays", "night", "found"] ["house", "stays"] (defScope (top 41)) := ⟨rfl, rfl, rfl, by decide +kernel, rfl, by decide +kernel, by decide +kernel⟩
theorem sc_need_both_fits : FnScope ["house", "stays"] ["house", "stays"] (defScope (top 42)) := ⟨rfl, rfl, rfl, by decide +kernel, rfl, by decide +kernel, by decide +kernel⟩
theorem sc_fits : FnScope ["house", "stays"] ["house", "stays"] (defScope (top 44)) := ⟨rfl, rfl, rfl, by decide +kernel, rfl, by decide +kernel, by decide +kernel⟩
theorem sc_left_by : FnScope ["house", "stays", "night", "kind", "spare"] ["house", "stays", "night", "kind"] (defScope (top 45)) := ⟨rfl, rfl, rfl, by decide +kernel, rfl, by decide +kernel, by decide +kernel⟩
theorem sc_left : FnScope ["house", "stays", "night", "kind"] ["house", "stays", "night", "kind"] (defScope (top 46)) := ⟨rfl, rfl, rfl, by decide +kernel, rfl, by decide +kernel, by decide +kernel⟩
theorem sc_begins : FnScope ["house", "stays", "kind", "nights", "firsts", "first"] ["house", "stays", "kind", "nights"] (defScope (top 47)) := ⟨rfl, rfl, rfl, by decide +kernel, rfl, by decide +kernel, by decide +kernel⟩
def forTg (i : Nat) (st : Stmt) : Expr := match (defBody st)[i]? with | some (.For tg _ _ _ _) => tg | _ => .Constant .none 0 ⟨0, 0, 0, 0⟩
def forBd (i : Nat) (st : Stmt) : List Stmt := match (defBody st)[i]? with | some (.For _ _ b _ _) => b | _ => []
theorem evi_seq {T : Tbl} {X : Cx} {δ : Sl} {a tg : Expr} {b : Bool} {ds : List PyData} (h : Ev T X a δ (.d (seqD b ds))) : Evi T X tg a δ ds := by
  cases b with
  | true => exact evi_list h
  | false => exact evi_tup h
def spareL (h : List Int) (st : List Stay) (n : Int) : List Int := kinds3.map (spare h st n)
def minL : List Int → Int
  | [] => 0
  | [x] => x
  | x :: y :: r => min x (minL (y :: r))
theorem minL_mem : ∀ {l : List Int}, l ≠ [] → minL l ∈ l
  | [], h => absurd rfl h
  | [x], _ => by simp [minL]
  | x :: y :: r, _ => by
    have := minL_mem (l := y :: r) (by simp)
    unfold minL
    rcases Int.le_total x (minL (y :: r)) with q | q
    · rw [Int.min_eq_left q]; exact List.mem_cons_self
    · rw [Int.min_eq_right q]; exact List.mem_cons_of_mem _ this
theorem minL_le : ∀ {l : List Int} (y : Int), y ∈ l → minL l ≤ y
  | [x], y, h => by simp at h; subst h; simp [minL]
  | x :: z :: r, y, h => by
    unfold minL
    rcases List.mem_cons.mp h with q | q
    · rw [q]; exact Int.min_le_left _ _
    · exact Int.le_trans (Int.min_le_right _ _) (minL_le y q)
def leftI (h : List Int) (st : List Stay) (n k : Int) : Int := if 0 ≤ minL (spareL h st n) then max 0 (minL ((spareL h st n).take k.toNat)) else 0
def beginsL (h : List Int) (st : List Stay) (k m : Int) : List Int := ((List.range 21).map fun (i : Nat) => (i : Int)).filter fun f => fitsB h (st ++ [(k, f, m)])
def nightsD (st : List Stay) : PyData := .list ((nightsOf st).map .int)
def StB (st : List Stay) (n : Nat) : Prop := st.length ≤ n ∧ ∀ s ∈ st, StayOk s
section
variable (K : PySem.W.Frag) (T : Tbl)
abbrev sp_from_kind : Sp := spN (α := Bool × List Int × Int) K T (fun a => [.d (seqD a.1 (a.2.1.map .int)), .d (.int a.2.2)]) (fun a => a.2.1.length ≤ 1000) (fun a => .d (.int (fromK a.2.1 a.2.2)))
abbrev sp_spare_by : Sp := spN (α := List Int × List Stay × Int) K T (fun a => [.d (houseD a.1), .d (staysD a.2.1), .d (.int a.2.2)]) (fun a => a.1.length ≤ 1000 ∧ a.2.1.length ≤ 1000) (fun a => .d (.list ((spareL a.1 a.2.1 a.2.2).map .int)))
abbrev sp_over_by : Sp := spN (α := List Int × List Stay × Int) K T (fun a => [.d (houseD a.1), .d (staysD a.2.1), .d (.int a.2.2)]) (fun a => a.1.length ≤ 1000 ∧ a.2.1.length ≤ 1000) (fun a => .d (overD a.1 a.2.1 a.2.2))
abbrev sp_nights_of : Sp := spN (α := List Stay) K T (fun a => [.d (staysD a)]) (fun a => StB a 1000) (fun a => .d (nightsD a))
abbrev sp_fits_by : Sp := spN (α := List Int × List Stay) K T (fun a => [.d (houseD a.1), .d (staysD a.2)]) (fun a => a.1.length ≤ 1000 ∧ StB a.2 1000) (fun a => .d (fitsD a.1 a.2))
abbrev sp_need_both : Sp := spN (α := List Int × List Stay) K T (fun a => [.d (houseD a.1), .d (staysD a.2)]) (fun a => HouseOk a.1 ∧ StB a.2 8) (fun a => .d .none)
abbrev sp_fits : Sp := spN (α := List Int × List Stay) K T (fun a => [.d (houseD a.1), .d (staysD a.2)]) (fun a => HouseOk a.1 ∧ StB a.2 8) (fun a => .d (fitsD a.1 a.2))
abbrev sp_left_by : Sp := spN (α := List Int × List Stay × Int × Int) K T (fun a => [.d (houseD a.1), .d (staysD a.2.1), .d (.int a.2.2.1), .d (.int a.2.2.2)]) (fun a => a.1.length ≤ 1000 ∧ a.2.1.length ≤ 1000 ∧ 1 ≤ a.2.2.2 ∧ a.2.2.2 ≤ 3) (fun a => .d (.int (leftI a.1 a.2.1 a.2.2.1 a.2.2.2)))
abbrev sp_left : Sp := spN (α := List Int × List Stay × Int × Int) K T (fun a => [.d (houseD a.1), .d (staysD a.2.1), .d (.int a.2.2.1), .d (.int a.2.2.2)]) (fun a => HouseOk a.1 ∧ StB a.2.1 8 ∧ (0 ≤ a.2.2.1 ∧ a.2.2.1 ≤ 40) ∧ 1 ≤ a.2.2.2 ∧ a.2.2.2 ≤ 3) (fun a => .d (.int (leftI a.1 a.2.1 a.2.2.1 a.2.2.2)))
abbrev sp_begins : Sp := spN (α := List Int × List Stay × Int × Int) K T (fun a => [.d (houseD a.1), .d (staysD a.2.1), .d (.int a.2.2.1), .d (.int a.2.2.2)]) (fun a => HouseOk a.1 ∧ StB a.2.1 8 ∧ (1 ≤ a.2.2.1 ∧ a.2.2.1 ≤ 3) ∧ 1 ≤ a.2.2.2 ∧ a.2.2.2 ≤ 8) (fun a => .d (.tuple ((beginsL a.1 a.2.1 a.2.2.1 a.2.2.2).map .int)))
end
theorem ok_fits : PyData.strOk ("fits" : Str) = true := by decide +kernel
theorem ok_over : PyData.strOk ("over" : Str) = true := by decide +kernel
theorem fits_shaped (h : List Int) (st : List Stay) : SeqAt.shaped (fitsD h st) = true := by
  unfold fitsD
  split
  · simp [SeqAt.shaped, PyData.canLay0, PyData.canLayAll0, PyData.depth, PyData.depthAll, ok_fits]
  · split <;> simp [SeqAt.shaped, PyData.canLay0, PyData.canLayAll0, PyData.depth, PyData.depthAll, ok_fits, ok_over]
theorem fits1_shaped : SeqAt.shaped (.tuple [.str "fits"]) = true := by simp [SeqAt.shaped, PyData.canLay0, PyData.canLayAll0, PyData.depth, PyData.depthAll, ok_fits]
theorem eqv_fits : PyData.eqv (.tuple [.str "fits"]) (.tuple [.str "fits"]) = true := by simp [PyData.eqv, PyData.eqvAll]
theorem fits_eqv (h : List Int) (st : List Stay) : PyData.eqv (fitsD h st) (.tuple [.str "fits"]) = fitsB h st := by
  unfold fitsD
  split
  · rename_i e
    rw [eqv_fits]
    symm
    unfold fitsB
    rw [List.all_eq_true]
    intro n hn
    have := List.find?_eq_none.mp e n hn
    cases q : overK h st n with
    | none => rfl
    | some k => rw [q] at this; simp at this
  · rename_i n e
    have h1 := List.find?_some e
    have h2 := List.mem_of_find?_eq_some e
    split
    · rename_i q
      rw [q] at h1
      simp at h1
    · rename_i k q
      have e1 : fitsB h st = false := by
        unfold fitsB
        rw [← Bool.not_eq_true, List.all_eq_true]
        intro z
        have := z n h2
        rw [q] at this
        simp at this
      rw [e1]
      simp [PyData.eqv, PyData.eqvAll]
section
variable {P : Program} {w : World} {K : PySem.W.Frag} {mg : Str → Option Value} {base : Heap} {T : Tbl} {f : Addr} {fd : FuncData}
theorem ok_from_kind (F : Fun K "from_kind" "from_kind" (top 37) f fd) (B : Bn mg) : FnOk P w K mg base CX0 1 f fd ["kinds", "kind"] (sp_from_kind K T) := by
  refine fn_mkN F sc_from_kind (fun _ => rfl) fun cdv A outer s H E hr a hp => ⟨.rt (.d (.int (fromK a.2.1 a.2.2))), ?_, rfl⟩
  refine evb_one (evs_ret (ev_is (ev_lenL (ds := (a.2.1.filter fun o => decide (a.2.2 ≤ o)).map .int) B ?_) ?_))
  · refine ev_lc (js := [2]) [("one", 2)] a.2.1 .int (fun o => decide (a.2.2 ≤ o)) .int (nd_ok rfl) rfl (evi_seq (b := a.1) (ev_n 0)) (Nat.le_trans hp (by decide)) fun x _ => ?_
    exact ⟨_, fun s H0 C' cl fp => ⟨evg_n 2 (nd_ok rfl), evts_one (evt_ge (ev_n 2) (ev_n 1)), fun _ => ev_n 2⟩⟩
  · rw [List.length_map]
    rfl
theorem ok_spare_by (F : Fun K "spare_by" "spare_by" (top 38) f fd) (B : Bn mg) (C : Cn mg) (D1 : Dfn P w K mg base "sleeps" 1 ["stay", "night"] (sp_sleeps K T)) (D2 : Dfn P w K mg base "from_kind" 1 ["kinds", "kind"] (sp_from_kind K T)) : FnOk P w K mg base CX0 2 f fd ["house", "stays", "night"] (sp_spare_by K T) := by
  refine fn_mkN F sc_spare_by (fun _ => rfl) fun cdv A outer s H E hr a hp => ⟨.rt (.d (.list ((spareL a.1 a.2.1 a.2.2).map .int))), ?_, rfl⟩
  refine evb_cons (evs_set 3 (ev_lc (js := [4]) [("stay", 4)] a.2.1 stayD (fun s => sleptBy s a.2.2) (fun s => .int s.1) (nd_ok rfl) rfl (evi_tup (ev_n 1)) (Nat.le_trans hp.2 (by decide)) (fun x _ => ?_)) (nd_ok rfl)) ?_
  · refine ⟨_, fun s H0 C' cl fp => ⟨evg_n 4 (nd_ok rfl), evts_one (evt_v ?_), fun _ => ev_ixT (ev_n 4) ev_i rfl⟩⟩
    exact ev_callI D1 hr (x, a.2.2) (eva_cons (ev_n 4) (eva_cons (ev_n 2) eva_nil)) trivial rfl
  · refine evb_one (evs_ret (ev_is (ev_lcM (js := [5]) [("kind", 5)] kinds3 .int (fun k => .int (spare a.1 a.2.1 a.2.2 k)) (nd_ok rfl) rfl (evi_r2 (i := 1) (j := 4) B ev_i (ev_is (ev_add (ev_gi C.kind) ev_i) rfl) (by decide)) (by decide) fun x _ => ?_) ?_))
    · refine ⟨_, fun s H0 C' cl fp => ⟨evg_n 5 (nd_ok rfl), evts_nil, fun _ => ev_sub ?_ ?_⟩⟩
      · exact ev_callI D2 hr (false, a.1, x) (eva_cons (ev_n 0) (eva_cons (ev_n 5) eva_nil)) hp.1 rfl
      · refine ev_callI D2 hr (true, kindsAt a.2.1 a.2.2, x) (eva_cons (r := .d (.list ((kindsAt a.2.1 a.2.2).map .int))) (ev_is (ev_n 3) ?_) (eva_cons (ev_n 5) eva_nil)) ?_ rfl
        · unfold kindsAt
          rw [List.map_map]
          rfl
        · unfold kindsAt
          rw [List.length_map]
          exact Nat.le_trans (List.length_filter_le _ _) hp.2
    · unfold spareL
      rw [List.map_map]
      rfl
theorem ok_over_by (F : Fun K "over_by" "over_by" (top 39) f fd) (B : Bn mg) (D1 : Dfn P w K mg base "spare_by" 2 ["house", "stays", "night"] (sp_spare_by K T)) (D2 : Dfn P w K mg base "from_kind" 1 ["kinds", "kind"] (sp_from_kind K T)) : FnOk P w K mg base CX0 3 f fd ["house", "stays", "night"] (sp_over_by K T) := by
  refine fn_mkN F sc_over_by (fun _ => rfl) fun cdv A outer s H E hr a hp => ⟨.rt (.d (overD a.1 a.2.1 a.2.2)), ?_, rfl⟩
  have turn : ∀ k : Int, ∀ δ : Sl, δ.length = 6 → δ[0]? = some (some (.d (houseD a.1))) → 
      (spare a.1 a.2.1 a.2.2 k < 0 → Turn1 T (cxOf CX0 P w K mg base ["house", "stays", "night", "kind", "spare", "rooms"] "over_by" (defScope (top 39)) f cdv A outer s H E).nox (forTg 0 (top 39)) (forBd 0 (top 39)) δ (.tuple [.int k, .int (spare a.1 a.2.1 a.2.2 k)]) (.rt (.d (.tuple [.int k, .int (fromK a.1 k - spare a.1 a.2.1 a.2.2 k), .int (fromK a.1 k)])))) ∧
      (¬ spare a.1 a.2.1 a.2.2 k < 0 → Turn1 T (cxOf CX0 P w K mg base ["house", "stays", "night", "kind", "spare", "rooms"] "over_by" (defScope (top 39)) f cdv A outer s H E).nox (forTg 0 (top 39)) (forBd 0 (top 39)) δ (.tuple [.int k, .int (spare a.1 a.2.1 a.2.2 k)]) (.nx ((δ.set 3 (some (.d (.int k)))).set 4 (some (.d (.int (spare a.1 a.2.1 a.2.2 k))))))) := by
    intro k δ hl h0
    obtain ⟨x0, x1, x2, x3, x4, x5, rfl⟩ : ∃ x0 x1 x2 x3 x4 x5, δ = [x0, x1, x2, x3, x4, x5] := by
      rcases δ with _ | ⟨x0, _ | ⟨x1, _ | ⟨x2, _ | ⟨x3, _ | ⟨x4, _ | ⟨x5, _ | ⟨x6, r⟩⟩⟩⟩⟩⟩⟩ <;> simp at hl
      exact ⟨_, _, _, _, _, _, rfl⟩
    simp at h0
    subst h0
    refine ⟨fun hs => ⟨_, _, evg_tup (evgs_cons (evg_n 3 (nd_ok rfl)) (evgs_cons (evg_n 4 (nd_ok rfl)) evgs_nil)), ?_⟩, fun hs => ⟨_, _, evg_tup (evgs_cons (evg_n 3 (nd_ok rfl)) (evgs_cons (evg_n 4 (nd_ok rfl)) evgs_nil)), ?_⟩⟩
    · refine evb_one (evs_if (u := true) (evt_is (evt_lt (ev_n 4) ev_i) (decide_eq_true hs)) (fun _ => ?_) (fun z => by cases z))
      refine evb_cons (evs_set 5 (r := .d (.int (fromK a.1 k))) ?_ (nd_ok rfl)) (evb_one (evs_ret (ev_tup (evd_cons (ev_n 3) (evd_cons (ev_sub (ev_n 5) (ev_n 4)) (evd_cons (ev_n 5) evd_nil))))))
      exact ev_callI D2 (hr.mono (by decide)) (false, a.1, k) (eva_cons (ev_n 0) (eva_cons (ev_n 3) eva_nil)) hp.1 rfl
    · exact evb_one (evs_if (u := false) (evt_is (evt_lt (ev_n 4) ev_i) (decide_eq_false hs)) (fun z => by cases z) (fun _ => evb_nil))
  by_cases h1 : spare a.1 a.2.1 a.2.2 1 < 0
  · have e : overD a.1 a.2.1 a.2.2 = .tuple [.int 1, .int (fromK a.1 1 - spare a.1 a.2.1 a.2.2 1), .int (fromK a.1 1)] := by
      unfold overD overK kinds3
      simp [List.find?, h1]
    rw [e]
    refine evb_out (evs_for (ds := enumF 1 ((spareL a.1 a.2.1 a.2.2).map .int)) (evi_enumS B (by decide) ?_ B.enumerate) (.ret ((turn 1 _ rfl rfl).1 h1))) rfl
    exact ev_callI D1 hr a (eva_cons (ev_n 0) (eva_cons (ev_n 1) (eva_cons (ev_n 2) eva_nil))) hp rfl
  by_cases h2 : spare a.1 a.2.1 a.2.2 2 < 0
  · have e : overD a.1 a.2.1 a.2.2 = .tuple [.int 2, .int (fromK a.1 2 - spare a.1 a.2.1 a.2.2 2), .int (fromK a.1 2)] := by
      unfold overD overK kinds3
      simp [List.find?, h1, h2]
    rw [e]
    refine evb_out (evs_for (ds := enumF 1 ((spareL a.1 a.2.1 a.2.2).map .int)) (evi_enumS B (by decide) ?_ B.enumerate) (.next ((turn 1 _ rfl rfl).2 h1) (.ret ((turn 2 _ rfl rfl).1 h2)))) rfl
    exact ev_callI D1 hr a (eva_cons (ev_n 0) (eva_cons (ev_n 1) (eva_cons (ev_n 2) eva_nil))) hp rfl
  by_cases h3 : spare a.1 a.2.1 a.2.2 3 < 0
  · have e : overD a.1 a.2.1 a.2.2 = .tuple [.int 3, .int (fromK a.1 3 - spare a.1 a.2.1 a.2.2 3), .int (fromK a.1 3)] := by
      unfold overD overK kinds3
      simp [List.find?, h1, h2, h3]
    rw [e]
    refine evb_out (evs_for (ds := enumF 1 ((spareL a.1 a.2.1 a.2.2).map .int)) (evi_enumS B (by decide) ?_ B.enumerate) (.next ((turn 1 _ rfl rfl).2 h1) (.next ((turn 2 _ rfl rfl).2 h2) (.ret ((turn 3 _ rfl rfl).1 h3))))) rfl
    exact ev_callI D1 hr a (eva_cons (ev_n 0) (eva_cons (ev_n 1) (eva_cons (ev_n 2) eva_nil))) hp rfl
  · have e : overD a.1 a.2.1 a.2.2 = .none := by
      unfold overD overK kinds3
      simp [List.find?, h1, h2, h3]
    rw [e]
    refine evb_cons (evs_for (ds := enumF 1 ((spareL a.1 a.2.1 a.2.2).map .int)) (evi_enumS B (by decide) ?_ B.enumerate) (.next ((turn 1 _ rfl rfl).2 h1) (.next ((turn 2 _ rfl rfl).2 h2) (.next ((turn 3 _ rfl rfl).2 h3) .nil)))) (evb_one (evs_ret ev_0))
    exact ev_callI D1 hr a (eva_cons (ev_n 0) (eva_cons (ev_n 1) (eva_cons (ev_n 2) eva_nil))) hp rfl
theorem ok_nights_of (F : Fun K "nights_of" "nights_of" (top 40) f fd) (B : Bn mg) : FnOk P w K mg base CX0 1 f fd ["stays"] (sp_nights_of K T) := by
  refine fn_mkN F sc_nights_of (fun _ => rfl) fun cdv A outer s H E hr a hp => ⟨.rt (.d (nightsD a)), ?_, rfl⟩
  refine evb_one (evs_ret (ev_sortSet (js := [1, 2, 3]) (js1 := [4]) [("kind", 1), ("first", 2), ("nights", 3), ("turn", 4)] [4] B a (fun s hs => ?_) (nd_ok rfl) rfl (evi_tup (ev_n 0)) fun q hq => ?_))
  · obtain ⟨_, _, h3, h4, h5, h6⟩ := hp.2 s hs
    omega
  · refine ⟨_, fun s H0 C cl fp => ⟨evg_tup (evgs_cons (evg_n 1 (nd_ok rfl)) (evgs_cons (evg_n 2 (nd_ok rfl)) (evgs_cons (evg_n 3 (nd_ok rfl)) evgs_nil))), ev_n 3, rfl, rfl⟩, fun i hi => ⟨_, fun s H0 C cl fp => ⟨evg_n 4 (nd_ok rfl), ev_add (ev_n 2) (ev_n 4)⟩⟩⟩
end
end N

namespace N
open PySem L2 LamX
section
variable {P : Program} {w : World} {K : PySem.W.Frag} {mg : Str → Option Value} {base : Heap} {T : Tbl} {f : Addr} {fd : FuncData}
theorem ok_fits_by (F : Fun K "fits_by" "fits_by" (top 41) f fd) (C : Cn mg) (D1 : Dfn P w K mg base "nights_of" 1 ["stays"] (sp_nights_of K T)) (D2 : Dfn P w K mg base "over_by" 3 ["house", "stays", "night"] (sp_over_by K T)) : FnOk P w K mg base CX0 4 f fd ["house", "stays"] (sp_fits_by K T) := by
  refine fn_mkN F sc_fits_by (fun _ => rfl) fun cdv A outer s H E hr a hp => ⟨.rt (.d (fitsD a.1 a.2)), ?_, rfl⟩
  have run : ∀ (ns : List Int) (δ : Sl), δ.length = 4 → δ[0]? = some (some (.d (houseD a.1))) → δ[1]? = some (some (.d (staysD a.2))) →
      (∃ δ', ns.find? (fun n => (overK a.1 a.2 n).isSome) = none ∧ ForRun (Turn1 T (cxOf CX0 P w K mg base ["house", "stays", "night", "found"] "fits_by" (defScope (top 41)) f cdv A outer s H E).nox (forTg 0 (top 41)) (forBd 0 (top 41))) (ns.map .int) δ (.nx δ')) ∨
      ∃ n k, ns.find? (fun n => (overK a.1 a.2 n).isSome) = some n ∧ overK a.1 a.2 n = some k ∧ ForRun (Turn1 T (cxOf CX0 P w K mg base ["house", "stays", "night", "found"] "fits_by" (defScope (top 41)) f cdv A outer s H E).nox (forTg 0 (top 41)) (forBd 0 (top 41))) (ns.map .int) δ (.rt (.d (.tuple [.str "over", .int n, .int k, .int (fromK a.1 k - spare a.1 a.2 n k), .int (fromK a.1 k)]))) := by
    intro ns
    induction ns with
    | nil => intro δ _ _ _; exact .inl ⟨δ, rfl, .nil⟩
    | cons n ns ih =>
      intro δ hl h0 h1
      obtain ⟨x0, x1, x2, x3, rfl⟩ : ∃ x0 x1 x2 x3, δ = [x0, x1, x2, x3] := by
        rcases δ with _ | ⟨x0, _ | ⟨x1, _ | ⟨x2, _ | ⟨x3, _ | ⟨x4, r⟩⟩⟩⟩⟩ <;> simp at hl
        exact ⟨_, _, _, _, rfl⟩
      simp at h0 h1
      subst h0 h1
      have hcall : ∀ {p p1 p2 p3 pos}, Ev T (cxOf CX0 P w K mg base ["house", "stays", "night", "found"] "fits_by" (defScope (top 41)) f cdv A outer s H E).nox (.Call (.Name "over_by" p) [.Name "house" p1, .Name "stays" p2, .Name "night" p3] [] pos) [some (.d (houseD a.1)), some (.d (staysD a.2)), some (.d (.int n)), x3] (.d (overD a.1 a.2 n)) := fun {p p1 p2 p3 pos} =>
        ev_callI D2 hr (a.1, a.2, n) (eva_cons (ev_n 0) (eva_cons (ev_n 1) (eva_cons (ev_n 2) eva_nil))) ⟨hp.1, hp.2.1⟩ rfl
      cases ho : overK a.1 a.2 n with
      | none =>
        have e : overD a.1 a.2 n = .none := by unfold overD; rw [ho]
        rw [e] at hcall
        have t1 : Turn1 T (cxOf CX0 P w K mg base ["house", "stays", "night", "found"] "fits_by" (defScope (top 41)) f cdv A outer s H E).nox (forTg 0 (top 41)) (forBd 0 (top 41)) [some (.d (houseD a.1)), some (.d (staysD a.2)), x2, x3] (.int n) (.nx [some (.d (houseD a.1)), some (.d (staysD a.2)), some (.d (.int n)), some (.d .none)]) := by
          refine ⟨_, _, evg_n 2 (nd_ok rfl), ?_⟩
          refine evb_cons (evs_set 3 hcall (nd_ok rfl)) (evb_one (evs_if (u := false) (evt_is (evt_notN (ev_n 3)) rfl) (fun z => by cases z) (fun _ => evb_nil)))
        rcases ih [some (.d (houseD a.1)), some (.d (staysD a.2)), some (.d (.int n)), some (.d .none)] rfl rfl rfl with ⟨δ', q1, q2⟩ | ⟨m, k, q1, q2, q3⟩
        · exact .inl ⟨δ', by rw [List.find?_cons_of_neg (by rw [ho]; simp)]; exact q1, .next t1 q2⟩
        · exact .inr ⟨m, k, by rw [List.find?_cons_of_neg (by rw [ho]; simp)]; exact q1, q2, .next t1 q3⟩
      | some k =>
        have e : overD a.1 a.2 n = .tuple [.int k, .int (fromK a.1 k - spare a.1 a.2 n k), .int (fromK a.1 k)] := by unfold overD; rw [ho]
        rw [e] at hcall
        refine .inr ⟨n, k, List.find?_cons_of_pos (by rw [ho]; rfl), ho, .ret ⟨_, _, evg_n 2 (nd_ok rfl), ?_⟩⟩
        refine evb_cons (evs_set 3 hcall (nd_ok rfl)) (evb_one (evs_if (u := true) (evt_is (evt_notN (ev_n 3)) rfl) (fun _ => evb_one (evs_ret ?_)) (fun z => by cases z)))
        exact ev_catT (ds := [.str "over", .int n]) (ev_tup (evd_cons (ev_gs C.over) (evd_cons (ev_n 2) evd_nil))) (ev_n 3) (Nat.le_of_ble_eq_true rfl)
  have hi : ∀ {p p1 pos}, Ev T (cxOf CX0 P w K mg base ["house", "stays", "night", "found"] "fits_by" (defScope (top 41)) f cdv A outer s H E).nox (.Call (.Name "nights_of" p) [.Name "stays" p1] [] pos) (startD ["house", "stays", "night", "found"] [.d (houseD a.1), .d (staysD a.2)]) (.d (.list ((nightsOf a.2).map .int))) := fun {p p1 pos} => ev_callI D1 (hr.mono (by decide)) a.2 (eva_cons (ev_n 1) eva_nil) hp.2 rfl
  rcases run (nightsOf a.2) (startD ["house", "stays", "night", "found"] [.d (houseD a.1), .d (staysD a.2)]) rfl rfl rfl with ⟨δ', q1, q2⟩ | ⟨m, k, q1, q2, q3⟩
  · have e : fitsD a.1 a.2 = .tuple [.str "fits"] := by unfold fitsD; rw [q1]
    rw [e]
    exact evb_cons (evs_for (evi_list hi) q2) (evb_one (evs_ret (ev_tup (evd_cons (ev_gs C.fits) evd_nil))))
  · have e : fitsD a.1 a.2 = .tuple [.str "over", .int m, .int k, .int (fromK a.1 k - spare a.1 a.2 m k), .int (fromK a.1 k)] := by unfold fitsD; rw [q1]; dsimp only; rw [q2]
    rw [e]
    exact evb_out (evs_for (evi_list hi) q3) rfl
theorem ok_need_both_fits (F : Fun K "need_both" "need_both" (top 42) f fd) (D1 : Dfn P w K mg base "need_house" 5 ["thing"] (sp_need_house K T)) (D2 : Dfn P w K mg base "need_stays" 6 ["thing"] (sp_need_stays K T)) : FnOk P w K mg base CX0 7 f fd ["house", "stays"] (sp_need_both K T) := by
  refine fn_mkN F sc_need_both_fits (fun _ => rfl) fun cdv A outer s H E hr a hp => ⟨.nx [some (.d (houseD a.1)), some (.d (staysD a.2))], ?_, rfl⟩
  refine evb_cons (evs_expr (r := .d .none) ?_) (evb_one (evs_expr (r := .d .none) ?_))
  · exact ev_callI D1 (hr.mono (by decide)) a.1 (eva_cons (ev_n 0) eva_nil) hp.1 rfl
  · exact ev_callI D2 (hr.mono (by decide)) a.2 (eva_cons (ev_n 1) eva_nil) hp.2 rfl
theorem ok_fits_def (F : Fun K "fits" "fits" (top 44) f fd) (D1 : Dfn P w K mg base "need_both_fits" 7 ["house", "stays"] (sp_need_both K T)) (D2 : Dfn P w K mg base "fits_by" 4 ["house", "stays"] (sp_fits_by K T)) : FnOk P w K mg base CX0 8 f fd ["house", "stays"] (sp_fits K T) := by
  refine fn_mkN F sc_fits (fun _ => rfl) fun cdv A outer s H E hr a hp => ⟨.rt (.d (fitsD a.1 a.2)), ?_, rfl⟩
  refine evb_cons (evs_expr (r := .d .none) ?_) (evb_one (evs_ret ?_))
  · exact ev_callI D1 (hr.mono (by decide)) a (eva_cons (ev_n 0) (eva_cons (ev_n 1) eva_nil)) hp rfl
  · exact ev_callI D2 (hr.mono (by decide)) a (eva_cons (ev_n 0) (eva_cons (ev_n 1) eva_nil)) ⟨Nat.le_trans hp.1.2.1 (by decide), Nat.le_trans hp.2.1 (by decide), hp.2.2⟩ rfl
theorem ok_left_by (F : Fun K "left_by" "left_by" (top 45) f fd) (B : Bn mg) (D1 : Dfn P w K mg base "spare_by" 2 ["house", "stays", "night"] (sp_spare_by K T)) : FnOk P w K mg base CX0 3 f fd ["house", "stays", "night", "kind"] (sp_left_by K T) := by
  refine fn_mkN F sc_left_by (fun _ => rfl) fun cdv A outer s H E hr a hp => ⟨.rt (.d (.int (leftI a.1 a.2.1 a.2.2.1 a.2.2.2))), ?_, rfl⟩
  have hne : spareL a.1 a.2.1 a.2.2.1 ≠ [] := by unfold spareL kinds3; simp
  have hk : a.2.2.2.toNat = 1 ∨ a.2.2.2.toNat = 2 ∨ a.2.2.2.toNat = 3 := by omega
  have hne2 : (spareL a.1 a.2.1 a.2.2.1).take a.2.2.2.toNat ≠ [] := by
    rcases hk with q | q | q <;> (rw [q]; unfold spareL kinds3; simp)
  have hcut : cutD ((spareL a.1 a.2.1 a.2.2.1).map PyData.int) none (some a.2.2.2) = ((spareL a.1 a.2.1 a.2.2.1).take a.2.2.2.toNat).map .int := by
    rcases hk with q | q | q
    · have : a.2.2.2 = 1 := by omega
      rw [this]
      rfl
    · have : a.2.2.2 = 2 := by omega
      rw [this]
      rfl
    · have : a.2.2.2 = 3 := by omega
      rw [this]
      rfl
  refine evb_cons (evs_set 4 (r := .d (.list ((spareL a.1 a.2.1 a.2.2.1).map .int))) ?_ (nd_ok rfl)) (evb_one (evs_ret (ev_is (ev_if (u := decide (0 ≤ minL (spareL a.1 a.2.1 a.2.2.1))) (r := .d (.int (leftI a.1 a.2.1 a.2.2.1 a.2.2.2))) ?_ (fun z => ?_) fun z => ?_) rfl)))
  · exact ev_callI D1 hr (a.1, a.2.1, a.2.2.1) (eva_cons (ev_n 0) (eva_cons (ev_n 1) (eva_cons (ev_n 2) eva_nil))) ⟨hp.1, hp.2.1⟩ rfl
  · exact evt_ge (ev_minL (ns := spareL a.1 a.2.1 a.2.2.1) B (ev_n 4) (minL_mem hne) (fun y hy => minL_le y hy)) ev_i
  · have e : leftI a.1 a.2.1 a.2.2.1 a.2.2.2 = if minL ((spareL a.1 a.2.1 a.2.2.1).take a.2.2.2.toNat) > 0 then minL ((spareL a.1 a.2.1 a.2.2.1).take a.2.2.2.toNat) else 0 := by
      unfold leftI
      rw [if_pos (of_decide_eq_true z)]
      split <;> omega
    rw [e]
    refine ev_max2 B ev_i (ev_minL (ns := (spareL a.1 a.2.1 a.2.2.1).take a.2.2.2.toNat) B (ev_is (ev_slL (ev_n 4) evo_none (evo_some (ev_n 3))) (by rw [hcut])) (minL_mem hne2) (fun y hy => minL_le y hy))
  · have e : leftI a.1 a.2.1 a.2.2.1 a.2.2.2 = 0 := by
      unfold leftI
      rw [if_neg (of_decide_eq_false z)]
    rw [e]
    exact ev_i
theorem ok_left (F : Fun K "left" "left" (top 46) f fd) (D1 : Dfn P w K mg base "need_both_fits" 7 ["house", "stays"] (sp_need_both K T)) (D2 : Dfn P w K mg base "left_by" 3 ["house", "stays", "night", "kind"] (sp_left_by K T)) (D3 : Dfn P w K mg base "need_night" 3 ["thing"] (sp_need_night K T)) (D4 : Dfn P w K mg base "need_kind" 4 ["thing"] (sp_need_kind K T)) : FnOk P w K mg base CX0 8 f fd ["house", "stays", "night", "kind"] (sp_left K T) := by
  refine fn_mkN F sc_left (fun _ => rfl) fun cdv A outer s H E hr a hp => ⟨.rt (.d (.int (leftI a.1 a.2.1 a.2.2.1 a.2.2.2))), ?_, rfl⟩
  refine evb_cons (evs_expr (r := .d .none) ?_) (evb_cons (evs_expr (r := .d .none) ?_) (evb_cons (evs_expr (r := .d .none) ?_) (evb_one (evs_ret ?_))))
  · exact ev_callI D1 (hr.mono (by decide)) (a.1, a.2.1) (eva_cons (ev_n 0) (eva_cons (ev_n 1) eva_nil)) ⟨hp.1, hp.2.1⟩ rfl
  · exact ev_callI D3 (hr.mono (by decide)) a.2.2.1 (eva_cons (ev_n 2) eva_nil) hp.2.2.1 rfl
  · exact ev_callI D4 (hr.mono (by decide)) a.2.2.2 (eva_cons (ev_n 3) eva_nil) hp.2.2.2 rfl
  · exact ev_callI D2 (hr.mono (by decide)) a (eva_cons (ev_n 0) (eva_cons (ev_n 1) (eva_cons (ev_n 2) (eva_cons (ev_n 3) eva_nil)))) ⟨Nat.le_trans hp.1.2.1 (by decide), Nat.le_trans hp.2.1.1 (by decide), hp.2.2.2⟩ rfl
theorem begins_eq (h : List Int) (st : List Stay) (k m : Int) : E.d (PyData.tuple (((List.range 21).filter fun (x : Nat) => fitsB h (st ++ [(k, (x : Int), m)])).map fun (i : Nat) => PyData.int (i : Int))) = E.d (PyData.tuple ((beginsL h st k m).map .int)) := by
  unfold beginsL
  rw [List.filter_map, List.map_map]
  rfl
theorem ok_begins (F : Fun K "begins" "begins" (top 47) f fd) (B : Bn mg) (C : Cn mg) (D1 : Dfn P w K mg base "need_both_fits" 7 ["house", "stays"] (sp_need_both K T)) (D2 : Dfn P w K mg base "fits_by" 4 ["house", "stays"] (sp_fits_by K T)) (D3 : Dfn P w K mg base "need_nights" 3 ["thing"] (sp_need_nights K T)) (D4 : Dfn P w K mg base "need_kind" 4 ["thing"] (sp_need_kind K T)) : FnOk P w K mg base CX0 8 f fd ["house", "stays", "kind", "nights"] (sp_begins K T) := by
  refine fn_mkN F sc_begins (fun _ => rfl) fun cdv A outer s H E hr a hp => ⟨.rt (.d (.tuple ((beginsL a.1 a.2.1 a.2.2.1 a.2.2.2).map .int))), ?_, rfl⟩
  refine evb_cons (evs_expr (r := .d .none) ?_) (evb_cons (evs_expr (r := .d .none) ?_) (evb_cons (evs_expr (r := .d .none) ?_) (evb_cons (evs_set 4 (r := .d (.list ((List.range 21).map fun (i : Nat) => PyData.int (i : Int)))) ?_ (nd_ok rfl)) (evb_one (evs_ret (ev_is (ev_tupL B ?_) (begins_eq a.1 a.2.1 a.2.2.1 a.2.2.2)))))))
  · exact ev_callI D1 (hr.mono (by decide)) (a.1, a.2.1) (eva_cons (ev_n 0) (eva_cons (ev_n 1) eva_nil)) ⟨hp.1, hp.2.1⟩ rfl
  · exact ev_callI D4 (hr.mono (by decide)) a.2.2.1 (eva_cons (ev_n 2) eva_nil) hp.2.2.1 rfl
  · exact ev_callI D3 (hr.mono (by decide)) a.2.2.2 (eva_cons (ev_n 3) eva_nil) hp.2.2.2 rfl
  · exact ev_listR (n := 21) B (ev_is (ev_add (ev_gi C.first) ev_i) rfl) (by decide)
  · refine ev_lc (js := [5]) [("first", 5)] (List.range 21) (fun (i : Nat) => PyData.int (i : Int)) (fun (x : Nat) => fitsB a.1 (a.2.1 ++ [(a.2.2.1, (x : Int), a.2.2.2)])) (fun (i : Nat) => PyData.int (i : Int)) (nd_ok rfl) rfl (evi_list (ev_n 4)) (by rw [List.length_range]; decide) fun x hx => ?_
    refine ⟨_, fun s H0 C' cl fp => ⟨evg_n 5 (nd_ok rfl), evts_one (evt_is (evt_eqD hr.units ?_ (ev_tup (ds := [.str "fits"]) (evd_cons (ev_gs C.fits) evd_nil)) (fits_shaped _ _) fits1_shaped) (fits_eqv a.1 (a.2.1 ++ [(a.2.2.1, (x : Int), a.2.2.2)]))), fun _ => ev_n 5⟩⟩
    refine ev_callI D2 (hr.mono (by decide)) (a.1, a.2.1 ++ [(a.2.2.1, (x : Int), a.2.2.2)]) (eva_cons (ev_n 0) (eva_cons (r := .d (staysD (a.2.1 ++ [(a.2.2.1, (x : Int), a.2.2.2)]))) (ev_is (ev_catT (ds2 := [stayD (a.2.2.1, (x : Int), a.2.2.2)]) (ev_n 1) (ev_tup (evd_cons (ev_tup (evd_cons (ev_n 2) (evd_cons (ev_n 5) (evd_cons (ev_n 3) evd_nil)))) evd_nil)) ?_) ?_) eva_nil)) ⟨Nat.le_trans hp.1.2.1 (by decide), ?_, ?_⟩ rfl
    · have := hp.2.1.1
      rw [List.length_map]
      simp
      omega
    · show N.E.d (PyData.tuple (a.2.1.map stayD ++ _)) = N.E.d (PyData.tuple ((a.2.1 ++ _).map stayD))
      rw [List.map_append]
      rfl
    · have := hp.2.1.1
      simp
      omega
    · intro s hs
      rcases List.mem_append.mp hs with q | q
      · exact hp.2.1.2 s q
      · rw [List.mem_singleton.mp q]
        rw [List.mem_range] at hx
        exact ⟨hp.2.2.1.1, hp.2.2.1.2, by show (0 : Int) ≤ (x : Int); omega, by show (x : Int) ≤ 20; omega, hp.2.2.2.1, hp.2.2.2.2⟩
end
end N

namespace N
open PySem L2 LamX
/-! ### plans, as plain data -/
abbrev Tab := List (List Int × Int)
def optD : Option Int → PyData
  | none => .none
  | some i => .int i
def toldD (t : List (Option Int)) : PyData := .tuple (t.map optD)
def chD (c : List (List Int)) : PyData := .list (c.map fun l => .list (l.map .int))
def roomsOf (h : List Int) (s : Stay) : List Int := ((List.range h.length).map fun (i : Nat) => (i : Int)).filter fun r => decide (s.1 ≤ h.getD r.toNat 0)
def takenI (free : List Int) (room first e : Int) : List Int := (free.map fun n => if first < n then n else 0).set room.toNat e
def getT (t : Tab) (k : List Int) : Option Int := (t.find? fun p => decide (p.1 = k)).map (·.2)
def putT (t : Tab) (k : List Int) (v : Int) : Tab := if (t.any fun p => decide (p.1 = k)) = true then t.map (fun p => if p.1 = k then (p.1, v) else p) else t ++ [(k, v)]
def offI (own : Option Int) (room : Int) : Int := match own with
  | none => 0
  | some o => if o = room then 0 else 1
def stepRoom (s : Stay) (own : Option Int) (p : List Int × Int) (later : Tab) (room : Int) : Tab :=
  if p.1.getD room.toNat 0 ≤ s.2.1 then
    putT later (takenI p.1 room s.2.1 (s.2.1 + s.2.2)) (min ((getT later (takenI p.1 room s.2.1 (s.2.1 + s.2.2))).getD (p.2 + offI own room)) (p.2 + offI own room))
  else later
def stepState (s : Stay) (own : Option Int) (rooms : List Int) (later : Tab) (p : List Int × Int) : Tab := rooms.foldl (stepRoom s own p) later
def stepNum (st : List Stay) (ch : List (List Int)) (told : List (Option Int)) (found : Tab) (n : Nat) : Tab := found.foldl (stepState (st.getD n (0, 0, 0)) (told.getD n none) (ch.getD n [])) []
def tab0 (rooms : Nat) : Tab := [(List.replicate rooms 0, 0)]
def tabOf (rooms : Nat) (st : List Stay) (ch : List (List Int)) (told : List (Option Int)) : Tab := (inOrder st).foldl (stepNum st ch told) (tab0 rooms)
def manyO (rooms : Nat) (st : List Stay) (ch : List (List Int)) (told : List (Option Int)) : Option Int := match tabOf rooms st ch told with
  | [] => none
  | p :: r => some (minL ((p :: r).map (·.2)))
/-! the table as the dict tells it -/
def encT (t : Tab) : List (TK × V) := t.map fun p => (p.1.map Sum.inl, V.int p.2)
theorem inl_inj {a b : List Int} : (a.map Sum.inl : TK) = b.map Sum.inl ↔ a = b := by
  refine ⟨fun h => ?_, fun h => by rw [h]⟩
  have : Function.Injective (Sum.inl : Int → L2.Key) := fun x y e => Sum.inl.inj e
  exact (List.map_inj_right (f := (Sum.inl : Int → L2.Key)) (fun x y e => Sum.inl.inj e)).mp h
theorem enc_val (t : Tab) (k : List Int) : valV (encT t) (k.map Sum.inl) = (getT t k).map V.int := by
  unfold valV encT getT
  induction t with
  | nil => rfl
  | cons p r ih =>
    rw [List.map_cons, List.find?_cons, List.find?_cons]
    by_cases h : p.1 = k
    · have e1 : decide ((p.1.map Sum.inl : TK) = k.map Sum.inl) = true := decide_eq_true (inl_inj.mpr h)
      have e2 : decide (p.1 = k) = true := decide_eq_true h
      simp only [e1, e2]
      rfl
    · have e1 : decide ((p.1.map Sum.inl : TK) = k.map Sum.inl) = false := decide_eq_false fun z => h (inl_inj.mp z)
      have e2 : decide (p.1 = k) = false := decide_eq_false h
      simp only [e1, e2]
      exact ih
theorem enc_put (t : Tab) (k : List Int) (v : Int) : putK (encT t) (k.map Sum.inl) (V.int v) = encT (putT t k v) := by
  have ha : ((encT t).any fun kv => decide (kv.1 = (k.map Sum.inl : TK))) = t.any fun p => decide (p.1 = k) := by
    unfold encT
    rw [List.any_map]
    congr 1
    funext p
    exact decide_eq_decide.mpr inl_inj
  unfold putK putT
  rw [ha]
  by_cases h : (t.any fun p => decide (p.1 = k)) = true
  · rw [if_pos h, if_pos h]
    unfold encT
    rw [List.map_map, List.map_map]
    refine List.map_congr_left fun p _ => ?_
    show (if (p.1.map Sum.inl : TK) = k.map Sum.inl then (p.1.map Sum.inl, V.int v) else (p.1.map Sum.inl, V.int p.2)) = ((if p.1 = k then (p.1, v) else p).1.map Sum.inl, V.int (if p.1 = k then (p.1, v) else p).2)
    by_cases e : p.1 = k
    · rw [if_pos (inl_inj.mpr e), if_pos e]
    · rw [if_neg (fun z => e (inl_inj.mp z)), if_neg e]
  · rw [if_neg h, if_neg h]
    unfold encT
    rw [List.map_append]
    rfl
theorem enc_len (t : Tab) : (encT t).length = t.length := List.length_map ..
theorem put_len (t : Tab) (k : List Int) (v : Int) : (putT t k v).length ≤ t.length + 1 := by
  unfold putT
  split
  · rw [List.length_map]; omega
  · rw [List.length_append]; simp
theorem stepRoom_len (s : Stay) (own : Option Int) (p : List Int × Int) (later : Tab) (room : Int) : (stepRoom s own p later room).length ≤ later.length + 1 := by
  unfold stepRoom
  split
  · exact put_len _ _ _
  · omega
theorem stepState_len (s : Stay) (own : Option Int) (p : List Int × Int) : ∀ (rooms : List Int) (later : Tab), (stepState s own rooms later p).length ≤ later.length + rooms.length
  | [], later => by simp [stepState]
  | r :: rs, later => by
    have h1 := stepRoom_len s own p later r
    have h2 := stepState_len s own p rs (stepRoom s own p later r)
    unfold stepState at h2 ⊢
    rw [List.foldl_cons, List.length_cons]
    omega
theorem states_len (s : Stay) (own : Option Int) (rooms : List Int) (m : Nat) (hm : rooms.length ≤ m) : ∀ (found later : Tab), (found.foldl (stepState s own rooms) later).length ≤ later.length + found.length * m
  | [], later => by simp
  | p :: ps, later => by
    have h1 := stepState_len s own p rooms later
    have h2 := states_len s own rooms m hm ps (stepState s own rooms later p)
    rw [List.foldl_cons, List.length_cons, Nat.add_mul]
    omega
theorem kV_inl (k : List Int) : (k.map Sum.inl : TK).map kV = k.map V.int := by rw [List.map_map]; rfl
theorem inOrder_lt (st : List Stay) : ∀ n ∈ inOrder st, n < st.length := fun n h => by
  unfold inOrder at h
  rw [List.mem_mergeSort, List.mem_range] at h
  exact h
end N

namespace N
open PySem L2 LamX
/-! ### a dict is written -/
def DK (o : HO) : Prop := (∃ kvs, o = .dT kvs) ∨ ∃ od kvs, o = .frz od (.dT kvs)
theorem DK.t {kvs : List (TK × V)} : DK (.dT kvs) := .inl ⟨_, rfl⟩
theorem DK.f {od : Obj} {kvs : List (TK × V)} : DK (.frz od (.dT kvs)) := .inr ⟨_, _, rfl⟩
section
variable {K : PySem.W.Frag} {T : Tbl} {S : Addr → Prop} {H H' : Hp} {σ : L2.St} {δ : Sl} {D : Addr} {o u : HO}
theorem Gr.mutD (g : Gr T H H') (h : H D = none) (hp : H' D = some o) (k : DK o) : Gr T H (upd H' D u) := by
  refine ⟨fun b v e n => ?_, fun t => ?_⟩
  · rw [upd_ne (ne_of_none e h)]; exact g.1 b v e n
  · have t' := g.2 t
    intro q hq
    obtain ⟨ps, h1, h2, h3⟩ := t' q hq
    have nP : q.1 ≠ D := fun z => by
      rw [z, hp] at h1
      rcases k with ⟨_, rfl⟩ | ⟨_, _, rfl⟩ <;> cases h1
    refine ⟨ps, by rw [upd_ne nP]; exact h1, h2, fun pos cv hc => ?_⟩
    obtain ⟨c, e1, e2⟩ := h3 pos cv hc
    have nc : c ≠ D := fun z => by
      rw [z, hp] at e2
      rcases k with ⟨_, rfl⟩ | ⟨_, _, rfl⟩ <;> cases e2
    exact ⟨c, e1, by rw [upd_ne nc]; exact e2⟩
theorem SL.mutD {a : Addr} {xs : List V} (hp : H D = some o) (k : DK o) (h : SL K S H a xs) : SL K S (upd H D u) a xs := by
  rcases h with ⟨n, h⟩ | h
  · refine .inl ⟨n, ?_⟩
    have na : a ≠ D := fun z => by
      rcases h with h | ⟨q, h⟩ <;> (rw [z, hp] at h; rcases k with ⟨_, rfl⟩ | ⟨_, _, rfl⟩ <;> cases h)
    rcases h with h | ⟨q, h⟩
    · exact .inl (by rw [upd_ne na]; exact h)
    · exact .inr ⟨q, by rw [upd_ne na]; exact h⟩
  · exact .inr h
theorem SqT.mutD {a : Addr} {xs : List V} (hp : H D = some o) (k : DK o) (h : SqT K H a xs) : SqT K (upd H D u) a xs := by
  rcases h with h | h
  · refine .inl ?_
    have na : a ≠ D := fun z => by
      rcases h with h | ⟨q, h⟩ <;> (rw [z, hp] at h; rcases k with ⟨_, rfl⟩ | ⟨_, _, rfl⟩ <;> cases h)
    rcases h with h | ⟨q, h⟩
    · exact .inl (by rw [upd_ne na]; exact h)
    · exact .inr ⟨q, by rw [upd_ne na]; exact h⟩
  · exact .inr h
theorem Rp.mutD (hp : H D = some o) (k : DK o) {v : V} {d : PyData} (h : Rp K S H v d) : Rp K S (upd H D u) v d := h.keep (fun _ _ => SL.mutD hp k) fun _ _ => SqT.mutD hp k
theorem RpA.mutD (hp : H D = some o) (k : DK o) {v : List V} {d : List PyData} (h : RpA K S H v d) : RpA K S (upd H D u) v d := h.keep (fun _ _ => SL.mutD hp k) fun _ _ => SqT.mutD hp k
theorem Ad.mutD (hp : H D = some o) (k : DK o) (hS : ¬ S D) (h : Ad K T S H σ δ) : Ad K T S (upd H D u) σ δ := by
  refine ⟨fun a ha => ?_, ?_, h.sd.len, fun i e q => ?_⟩
  · obtain ⟨v, e, m⟩ := h.sok a ha
    exact ⟨v, by rw [upd_ne (fun z => hS (by rw [← z]; exact ha))]; exact e, m⟩
  · intro q hq
    obtain ⟨ps, h1, h2, h3⟩ := h.tab q hq
    have nP : q.1 ≠ D := fun z => by
      rw [z, hp] at h1
      rcases k with ⟨_, rfl⟩ | ⟨_, _, rfl⟩ <;> cases h1
    refine ⟨ps, by rw [upd_ne nP]; exact h1, h2, fun pos cv hc => ?_⟩
    obtain ⟨c, e1, e2⟩ := h3 pos cv hc
    have nc : c ≠ D := fun z => by
      rw [z, hp] at e2
      rcases k with ⟨_, rfl⟩ | ⟨_, _, rfl⟩ <;> cases e2
    exact ⟨c, e1, by rw [upd_ne nc]; exact e2⟩
  · obtain ⟨v, e1, e2⟩ := h.sd.at' i e q
    refine ⟨v, e1, ?_⟩
    cases e with
    | d p => exact Rp.mutD hp k e2
    | rf a => exact e2
    | ob x C fds nm =>
      obtain ⟨h1, dx, fs, h2, h3, h4⟩ := e2
      refine ⟨h1, dx, fs, ?_, fun f p q => ?_, h4⟩
      · rw [upd_ne (fun z => by rw [z, hp] at h2; rcases k with ⟨_, rfl⟩ | ⟨_, _, rfl⟩ <;> cases h2)]
        exact h2
      · obtain ⟨u', a, b⟩ := h3 f p q
        exact ⟨u', a, Rp.mutD hp k b⟩
theorem Ad.forget (h : Ad K T S H σ δ) (i : Nat) {v : Option V} : Ad K T S H (σ.set i v) (δ.set i none) := ⟨h.sok, h.tab, h.sd.forget i⟩
end
theorem iw_list {T : Tbl} {X : Cx} {δ : Sl} {a : Expr} {ds : List PyData} (h : Ev T X a δ (.d (.list ds))) : Iw X.K T (iList X.K (tB X a)) δ ds := fun S σ H ad R k => h S σ H ad _ fun v H1 g r => by
  cases r with
  | lst hq ha =>
    rename_i l xs
    refine ⟨l, rfl, ⟨xs, hq.sq⟩, k _ H1 g fun H2 g2 => ?_⟩
    have hl := ha.length
    have w := walk_list (K := X.K) (a := l) (xs := xs)
    have q2 : SqL X.K H2 l xs := (hq.grow g2).sq
    refine ⟨fun i hi => w.goes i H2 (by omega) q2, by rw [← hl]; exact w.stops H2 q2, fun i x H3 hi y => ?_⟩
    obtain ⟨e1, e2⟩ := w.yields i H2 x H3 (by omega) q2 y
    subst e1
    refine ⟨Gr.refl _, fun S' hS => ?_⟩
    exact ((ha.more hS).grow g2).getV e2
theorem iw_tup {T : Tbl} {X : Cx} {δ : Sl} {a : Expr} {ds : List PyData} (h : Ev T X a δ (.d (.tuple ds))) : Iw X.K T (iTup X.K (tB X a)) δ ds := fun S σ H ad R k => h S σ H ad _ fun v H1 g r => by
  cases r with
  | tup hq ha =>
    rename_i l xs
    refine ⟨l, rfl, ⟨xs, hq⟩, k _ H1 g fun H2 g2 => ?_⟩
    have hl := ha.length
    have w := walk_tup (K := X.K) (a := l) (xs := xs)
    have q2 : SqT X.K H2 l xs := SqT.grow g2 hq
    refine ⟨fun i hi => w.goes i H2 (by omega) q2, by rw [← hl]; exact w.stops H2 q2, fun i x H3 hi y => ?_⟩
    obtain ⟨e1, e2⟩ := w.yields i H2 x H3 (by omega) q2 y
    subst e1
    refine ⟨Gr.refl _, fun S' hS => ?_⟩
    exact ((ha.more hS).grow g2).getV e2
theorem seq_asg {te : TE} {g : TG} {u : TS} {D : Ends} {σ : L2.St} {H : Hp} (h : te σ H fun x H1 => g x σ H1 (u D)) : tSeq (tAsg te g) u D σ H := h
theorem name_set {i : Nat} {v : V} {σ : L2.St} {H : Hp} {Q : L2.St → Hp → Prop} (h : Q (σ.set i (some v)) H) : gName i v σ H Q := h
/-! ### taken -/
theorem sc_taken : FnScope ["free", "room", "first", "end", "later", "night"] ["free", "room", "first", "end"] (defScope (top 53)) := ⟨rfl, rfl, rfl, by decide +kernel, rfl, by decide +kernel, by decide +kernel⟩
def intsD (l : List Int) : PyData := .tuple (l.map .int)
def spTk (K : PySem.W.Frag) (T : Tbl) : Sp := fun vs H Q _ => ∃ (S : Addr → Prop) (a : List Int × Int × Int × Int), Sok S H ∧ Tabs T H ∧ REA K S H vs [.d (intsD a.1), .d (.int a.2.1), .d (.int a.2.2.1), .d (.int a.2.2.2)] ∧ (0 ≤ a.2.1 ∧ a.2.1 < (a.1.length : Int) ∧ a.1.length ≤ 1000) ∧
  ∀ b H', Gr T H H' → H' b = some (.tup ((takenI a.1 a.2.1 a.2.2.1 a.2.2.2).map V.int)) → Q (.ref b) H'
section
variable {P : Program} {w : World} {K : PySem.W.Frag} {mg : Str → Option Value} {base : Heap} {T : Tbl} {f : Addr} {fd : FuncData}
theorem ok_taken (F : Fun K "taken" "taken" (top 53) f fd) (B : Bn mg) : FnOk P w K mg base CX0 1 f fd ["free", "room", "first", "end"] (spTk K T) := by
  refine F.ok sc_taken (fun vs H Q E h => ?_) fun cdv A outer s H vs Q E hr h => ?_
  · obtain ⟨S, a, _, _, r, _⟩ := h
    rw [r.length]
    rfl
  obtain ⟨S, a, sk, tb, r, ⟨hp0, hp1, hp2⟩, q⟩ := h
  refine ⟨_, pss_cons (ps_setLc (i := 4) (own := [("night", 5)]) rfl (nd_ok rfl) rfl rfl (sw_true rfl rfl rfl (by decide +kernel)) (pi_tup (pe_best _)) (blkOk_by rfl) bG_ok bT_ok bE_ok) (pss_cons (ps_asg (pe_best _) (pg_sub (pe_var (i := 4) rfl (.inl rfl)) (pe_best _) set_list)) (pss_one (ps_ret (pe_tupleOf rfl B.tuple (pe_var (i := 4) rfl (.inl rfl)))))), ?_⟩
  refine seq_asg ?_
  refine ed_lcR (T := T) (δ := startD ["free", "room", "first", "end", "later", "night"] [.d (intsD a.1), .d (.int a.2.1), .d (.int a.2.2.1), .d (.int a.2.2.2)]) (js := [5]) ?_ a.1 .int (fun _ => true) (fun n => .int (if a.2.2.1 < n then n else 0)) ?_ (Nat.le_trans hp2 (by decide)) (turns_ed fun x _ => ?_) S _ H ⟨sk, tb, SD.start r⟩ _ fun D H1 H2 acc g1 hD g2 hacc racc => ?_
  · decide
  · exact iw_tup (ev_n 0)
  · refine ⟨_, fun s H0 C' cl fp => ⟨evg_n 5 (nd_ok rfl), evts_nil, fun _ => ?_⟩⟩
    refine ev_if (u := decide (a.2.2.1 < x)) (evt_gt (ev_n 5) (ev_n 2)) (fun z => ev_is (ev_n 5) ?_) fun z => ev_is ev_i ?_
    · rw [if_pos (of_decide_eq_true z)]
    · rw [if_neg (of_decide_eq_false z)]
  have eacc : acc = (a.1.map fun n => if a.2.2.1 < n then n else 0).map V.int := by
    rw [List.filter_eq_self.mpr (fun _ _ => rfl)] at racc
    refine RpA.ints (K := K) (S := S) (H := H2) ?_
    rw [List.map_map]
    exact racc
  subst eacc
  have ad0 : Ad K T S H (L2.start ["free", "room", "first", "end", "later", "night"] vs) (startD ["free", "room", "first", "end", "later", "night"] [.d (intsD a.1), .d (.int a.2.1), .d (.int a.2.2.1), .d (.int a.2.2.2)]) := ⟨sk, tb, SD.start r⟩
  have hl4 : (L2.start ["free", "room", "first", "end", "later", "night"] vs).length = 6 := ad0.sd.len
  have ad1 := (ad0.grow (g1.trans g2)).forget 4 (v := some (.ref D))
  refine name_set ?_
  refine seq_asg ?_
  refine (show ∀ pos, Ev T (cxOf CX0 P w K mg base ["free", "room", "first", "end", "later", "night"] "taken" (defScope (top 53)) f cdv A outer s H E).nox (.Name "end" pos) _ (.d (.int a.2.2.2)) from fun pos => ev_n 3) _ S _ H2 ad1 _ fun v H3 g3 r3 => ?_
  obtain rfl := Rp.int_inv r3
  refine ⟨.ref D, by rw [List.getElem?_set_self (by rw [hl4]; decide)], ?_⟩
  refine (show ∀ pos, Ev T (cxOf CX0 P w K mg base ["free", "room", "first", "end", "later", "night"] "taken" (defScope (top 53)) f cdv A outer s H E).nox (.Name "room" pos) _ (.d (.int a.2.1)) from fun pos => ev_n 1) _ S _ H3 (ad1.grow g3) _ fun v H4 g4 r4 => ?_
  obtain rfl := Rp.int_inv r4
  have hD4 : H4 D = some (.lst ((a.1.map fun n => if a.2.2.1 < n then n else 0).map V.int)) := (g3.trans g4).1 _ _ hacc (fun ps z => by cases z)
  refine ⟨D, _, a.2.1, a.2.1.toNat, rfl, rfl, hD4, ?_, ?_⟩
  · unfold ixN
    rw [if_pos hp0, if_pos (by simp; exact hp1)]
  have g5 : Gr T H1 (upd H4 D (.lst (((a.1.map fun n => if a.2.2.1 < n then n else 0).map V.int).set a.2.1.toNat (V.int a.2.2.2)))) := ((g2.trans g3).trans g4).mut hD hD4 trivial
  refine ⟨.ref D, by rw [List.getElem?_set_self (by rw [hl4]; decide)], .inl ⟨D, _, rfl, .inl (.inl upd_same), fun p hp => ?_⟩⟩
  refine q p _ ((g1.trans g5).trans (Gr.new hp)) ?_
  rw [upd_same]
  unfold takenI
  rw [List.map_set]
end
end N

namespace N
open PySem L2 LamX
/-! ### loops read raw -/
theorem loop_list {K : PySem.W.Frag} {S : Addr → Prop} {g : TG} {tb : TS} {D : Ends} {σ : L2.St} {H : Hp} {a : Addr} {xs : List V} (hq : SL K S H a xs) (I : Nat → L2.St → Hp → Prop) (h0 : I 0 σ H)
    (step : ∀ (i : Nat) (x : V) (σ : L2.St) (H : Hp), xs[i]? = some x → SL K S H a xs → I i σ H → g x σ H fun σ2 H2 => tb { D with nx := fun σ' H' => SL K S H' a xs ∧ I (i + 1) σ' H', ct := fun σ' H' => SL K S H' a xs ∧ I (i + 1) σ' H', bk := D.nx } σ2 H2)
    (hd : ∀ σ H, I xs.length σ H → D.nx σ H) :
    ∃ W : Nat → Nat → L2.St → Hp → Prop, (∃ m, W 0 m σ H) ∧ ∀ i m σ H, W i m σ H → ((Itl K a).stop i H ∧ D.nx σ H) ∨ ((Itl K a).go i H ∧ ∃ N : L2.St → Hp → Prop, (∀ σ' H', N σ' H' → ∃ m', m' < m ∧ W (i + 1) m' σ' H') ∧
      ∀ x H', (Itl K a).yld i H x H' → g x σ H' fun σ2 H2 => tb { D with nx := N, ct := N, bk := D.nx } σ2 H2) := by
  refine ⟨fun i m σ H => m = xs.length - i ∧ i ≤ xs.length ∧ SL K S H a xs ∧ I i σ H, ⟨_, rfl, Nat.zero_le _, hq, h0⟩, ?_⟩
  rintro i m σ H ⟨rfl, hi, q, inv⟩
  have w := walk_list (K := K) (a := a) (xs := xs)
  by_cases hlt : i < xs.length
  · refine .inr ⟨w.goes i H hlt q.sq, fun σ' H' => SL K S H' a xs ∧ I (i + 1) σ' H', fun σ' H' z => ⟨xs.length - (i + 1), by omega, rfl, hlt, z.1, z.2⟩, fun x H' y => ?_⟩
    obtain ⟨e1, e2⟩ := w.yields i H x H' hlt q.sq y
    subst e1
    exact step i x σ _ e2 q inv
  · have e : i = xs.length := by omega
    subst e
    exact .inl ⟨w.stops H q.sq, hd σ H inv⟩
theorem loop_items {g : TG} {tb : TS} {D : Ends} {σ : L2.St} {H : Hp} {d : Addr} {o : Obj} {kvs : List (TK × V)} (hq : H d = some (.frz o (.dT kvs))) (I : Nat → L2.St → Hp → Prop) (h0 : I 0 σ H)
    (step : ∀ (i : Nat) (k : TK) (v : V) (q T : Addr) (σ : L2.St) (H : Hp), kvs[i]? = some (k, v) → H q = some (.tup (k.map kV)) → H T = none → H d = some (.frz o (.dT kvs)) → I i σ H → g (.ref T) σ (upd H T (.tup [.ref q, v])) fun σ2 H2 => tb { D with nx := fun σ' H' => H' d = some (.frz o (.dT kvs)) ∧ I (i + 1) σ' H', ct := fun σ' H' => H' d = some (.frz o (.dT kvs)) ∧ I (i + 1) σ' H', bk := D.nx } σ2 H2)
    (hd : ∀ σ H, H d = some (.frz o (.dT kvs)) → I kvs.length σ H → D.nx σ H) :
    ∃ W : Nat → Nat → L2.St → Hp → Prop, (∃ m, W 0 m σ H) ∧ ∀ i m σ H, W i m σ H → ((ItiT d o kvs).stop i H ∧ D.nx σ H) ∨ ((ItiT d o kvs).go i H ∧ ∃ N : L2.St → Hp → Prop, (∀ σ' H', N σ' H' → ∃ m', m' < m ∧ W (i + 1) m' σ' H') ∧
      ∀ x H', (ItiT d o kvs).yld i H x H' → g x σ H' fun σ2 H2 => tb { D with nx := N, ct := N, bk := D.nx } σ2 H2) := by
  refine ⟨fun i m σ H => m = kvs.length - i ∧ i ≤ kvs.length ∧ H d = some (.frz o (.dT kvs)) ∧ I i σ H, ⟨_, rfl, Nat.zero_le _, hq, h0⟩, ?_⟩
  rintro i m σ H ⟨rfl, hi, q, inv⟩
  by_cases hlt : i < kvs.length
  · refine .inr ⟨⟨q, hlt⟩, fun σ' H' => H' d = some (.frz o (.dT kvs)) ∧ I (i + 1) σ' H', fun σ' H' z => ⟨kvs.length - (i + 1), by omega, rfl, hlt, z.1, z.2⟩, fun x H' y => ?_⟩
    obtain ⟨T, k, v, qa, e1, rfl, e3, e4, rfl⟩ := y
    exact step i k v qa T σ H e1 e4 e3 q inv
  · have e : i = kvs.length := by omega
    subst e
    exact .inl ⟨⟨q, Nat.le_refl _⟩, hd σ H q inv⟩
theorem seq_id {t u : TS} {D : Ends} {σ : L2.St} {H : Hp} (h : t { D with nx := u D } σ H) : tSeq t u D σ H := h
theorem for_id {wi : TI} {g : TG} {tb : TS} {D : Ends} {σ : L2.St} {H : Hp} (h : wi σ H fun J H1 => ∃ W : Nat → Nat → L2.St → Hp → Prop, (∃ m, W 0 m σ H1) ∧ ∀ i m σ H, W i m σ H →
  (J.stop i H ∧ D.nx σ H) ∨ (J.go i H ∧ ∃ N : L2.St → Hp → Prop, (∀ σ' H', N σ' H' → ∃ m', m' < m ∧ W (i + 1) m' σ' H') ∧ ∀ x H', J.yld i H x H' → g x σ H' fun σ2 H2 => tb { D with nx := N, ct := N, bk := D.nx } σ2 H2)) : tFor wi g tb D σ H := h
theorem asg_id {te : TE} {g : TG} {D : Ends} {σ : L2.St} {H : Hp} (h : te σ H fun x H1 => g x σ H1 D.nx) : tAsg te g D σ H := h
theorem Ev.run {T : Tbl} {X : Cx} {δ : Sl} {e : Expr} {r : E} {S : Addr → Prop} {σ : L2.St} {H : Hp} {Q : VK} (h : Ev T X e δ r) (ad : Ad X.K T S H σ δ) (k : ∀ v H', Gr T H H' → RE X.K S H' v r → Q v H') : tB X e σ H Q := h S σ H ad Q k
theorem Evt.run {T : Tbl} {X : Cx} {δ : Sl} {e : Expr} {b : Bool} {S : Addr → Prop} {σ : L2.St} {H : Hp} {Q : Bool → Hp → Prop} (h : Evt T X e δ b) (ad : Ad X.K T S H σ δ) (k : ∀ H', Gr T H H' → Q b H') : tT X e σ H Q := h S σ H ad Q k
theorem Eva.run {T : Tbl} {X : Cx} {δ : Sl} {e : List Expr} {r : List E} {S : Addr → Prop} {σ : L2.St} {H : Hp} {Q : List V → Hp → Prop} (h : Eva T X e δ r) (ad : Ad X.K T S H σ δ) (k : ∀ v H', Gr T H H' → REA X.K S H' v r → Q v H') : tA X e σ H Q := h S σ H ad Q k
theorem Evs.run {T : Tbl} {X : Cx} {δ δ' : Sl} {st : Stmt} {S : Addr → Prop} {σ : L2.St} {H : Hp} {D : Ends} (h : Evs T X st δ (.nx δ')) (ad : Ad X.K T S H σ δ) (k : ∀ σ' H', Gr T H H' → Ad X.K T S H' σ' δ' → D.nx σ' H') : tS X st D σ H := h S σ H ad D k
theorem Ad.hide {K : PySem.W.Frag} {T : Tbl} {S : Addr → Prop} {H : Hp} {σ : L2.St} {δ : Sl} (h : Ad K T S H σ δ) (i : Nat) : Ad K T S H σ (δ.set i none) := h.le ⟨List.length_set, fun j e q => by
  by_cases hj : i = j
  · subst hj
    by_cases hl : i < δ.length
    · rw [List.getElem?_set_self hl] at q; cases q
    · rw [List.getElem?_eq_none (by rw [List.length_set]; omega)] at q; cases q
  · rwa [List.getElem?_set_ne hj] at q⟩
theorem ev_ixB {T : Tbl} {X : Cx} {δ : Sl} {a b : Expr} {pos : Pos} {q : Bool} {ds : List PyData} {i : Int} {d : PyData} (h1 : Ev T X a δ (.d (seqD q ds))) (h2 : Ev T X b δ (.d (.int i))) (hd : atI ds i = some d) (hs : PlainIx b := by intro _ _; rfl) : Ev T X (.Subscript a b pos) δ (.d d) := by
  cases q with
  | true => exact ev_ixL h1 h2 hd hs
  | false => exact ev_ixT h1 h2 hd hs
theorem Rp.lst_inv {K : PySem.W.Frag} {S : Addr → Prop} {H : Hp} {v : V} {ds : List PyData} (h : Rp K S H v (.list ds)) : ∃ a xs, v = .ref a ∧ SL K S H a xs ∧ RpA K S H xs ds := by
  cases h with
  | lst h r => exact ⟨_, _, rfl, h, r⟩
theorem isNo_opt (o : Option Int) : isNo (.d (optD o)) = o.isNone := by cases o <;> rfl
theorem ed_tab0 {T : Tbl} {X : Cx} {δ : Sl} {e : Expr} {S : Addr → Prop} {σ : L2.St} {H0 : Hp} {Q : VK} {rooms : Int} (h : Ev T X e δ (.d (.int rooms))) (hr : 0 ≤ rooms ∧ rooms ≤ 1000) (ad : Ad X.K T S H0 σ δ)
    (k : ∀ p Hx, H0 p = none → Gr T H0 Hx → Hx p = some (.dT (encT (tab0 rooms.toNat))) → Q (.ref p) Hx) : tDisp1T (tOp (rRep1 X.K) (tTup (tCons (tC (.int 0)) tNil)) (tB X e)) (tC (.int 0)) σ H0 Q := by
  refine fun p hpn => ?_
  have gp : Gr T H0 (upd H0 p (.dT [])) := Gr.new hpn
  refine ⟨by decide, fun q hq => ?_⟩
  have gq : Gr T (upd H0 p (.dT [])) (upd (upd H0 p (.dT [])) q (.tup [.int 0])) := Gr.new hq
  refine Ev.run (T := T) h (ad.grow (gp.trans gq)) fun v H3 g3 r3 => ?_
  obtain rfl := Rp.int_inv r3
  have hq3 : H3 q = some (.tup [.int 0]) := g3.1 _ _ upd_same (fun ps z => by cases z)
  have fin : ∀ (b : Addr) (Hx : Hp), Gr T (upd H0 p (.dT [])) Hx → Hx b = some (.tup (List.replicate rooms.toNat (V.int 0))) → Hx p = some (.dT []) ∧ ∃ (b' : Addr) (k' : TK), (V.ref b) = .ref b' ∧ Hx b' = some (.tup (k'.map kV)) ∧ Q (.ref p) (upd Hx p (.dT [(k', V.int 0)])) := fun b Hx g e => by
    have hp2 : Hx p = some (.dT []) := g.1 _ _ upd_same (fun ps z => by cases z)
    refine ⟨hp2, b, (List.replicate rooms.toNat (0 : Int)).map Sum.inl, rfl, by rw [kV_inl, List.map_replicate]; exact e, k p _ hpn ((gp.trans g).mutD hpn hp2 DK.t) ?_⟩
    rw [upd_same]
    rfl
  refine ⟨q, rooms, .int 0, rfl, rfl, SqT.of hq3, hr.1, hr.2, fun e1 => fin q H3 (gq.trans g3) ?_, fun hne p2 hp2 => fin p2 _ ((gq.trans g3).trans (Gr.new hp2)) upd_same⟩
  rw [hq3, e1]
  rfl
theorem upd_comm {H : Hp} {a b : Addr} {o u : HO} (h : a ≠ b) : upd (upd H a o) b u = upd (upd H b u) a o := by
  funext c
  unfold upd
  by_cases h1 : c = b
  · by_cases h2 : c = a
    · exact absurd (h2.symm.trans h1) h
    · rw [if_pos h1, if_neg h2, if_pos h1]
  · by_cases h2 : c = a
    · rw [if_neg h1, if_pos h2, if_pos h2]
    · rw [if_neg h1, if_neg h2, if_neg h2, if_neg h1]
/-- what grows while the dict at d is locked -/
theorem Gr.locked {T : Tbl} {H4 H H' : Hp} {d : Addr} {k : List (TK × V)} {o : HO} (g : Gr T H4 (upd H d (.dT k))) (h4 : H4 d = some (.dT k)) (e : Gr T H H') (hd : H' d = some o) (dk : DK o) (t : Tabs T H') : Gr T H4 (upd H' d (.dT k)) := by
  refine ⟨fun b v q n => ?_, fun _ q hq => ?_⟩
  · by_cases hb : b = d
    · subst hb
      rw [h4] at q
      rw [upd_same]
      exact q
    · have := g.1 b v q n
      rw [upd_ne hb] at this ⊢
      exact e.1 b v this n
  · obtain ⟨ps, h1, h2, h3⟩ := t q hq
    have nP : q.1 ≠ d := fun z => by
      rw [z, hd] at h1
      rcases dk with ⟨_, rfl⟩ | ⟨_, _, rfl⟩ <;> cases h1
    refine ⟨ps, by rw [upd_ne nP]; exact h1, h2, fun pos cv hc => ?_⟩
    obtain ⟨c, e1, e2⟩ := h3 pos cv hc
    have nc : c ≠ d := fun z => by
      rw [z, hd] at e2
      rcases dk with ⟨_, rfl⟩ | ⟨_, _, rfl⟩ <;> cases e2
    exact ⟨c, e1, by rw [upd_ne nc]; exact e2⟩
theorem enc_get {t : Tab} {j : Nat} {k : TK} {v : V} (h : (encT t)[j]? = some (k, v)) : ∃ p, t[j]? = some p ∧ k = p.1.map Sum.inl ∧ v = .int p.2 := by
  unfold encT at h
  rw [List.getElem?_map] at h
  obtain ⟨p, h1, h2⟩ := Option.map_eq_some_iff.mp h
  cases h2
  exact ⟨p, h1, rfl, rfl⟩
theorem takenI_len (free : List Int) (room first e : Int) : (takenI free room first e).length = free.length := by unfold takenI; rw [List.length_set, List.length_map]
def TabOk (n : Nat) (t : Tab) : Prop := ∀ p ∈ t, p.1.length = n
theorem tabOk_put {n : Nat} {t : Tab} {k : List Int} {v : Int} (h : TabOk n t) (hk : k.length = n) : TabOk n (putT t k v) := by
  unfold putT
  split
  · intro p hp
    obtain ⟨q, hq, e⟩ := List.mem_map.mp hp
    rw [← e]
    split
    · exact h q hq
    · exact h q hq
  · intro p hp
    rcases List.mem_append.mp hp with z | z
    · exact h p z
    · rw [List.mem_singleton.mp z]; exact hk
theorem upd_id {H : Hp} {a : Addr} {o : HO} (h : H a = some o) : upd H a o = H := by
  funext c
  unfold upd
  by_cases e : c = a
  · rw [if_pos e, e, h]
  · rw [if_neg e]
theorem Gr.mut_same {T : Tbl} {H H' : Hp} {a : Addr} {o : HO} (g : Gr T H H') (h : H' a = some o) : Gr T H (upd H' a o) := by
  rw [upd_id h]
  exact g
theorem sc_many : FnScope ["rooms", "stays", "choices", "told", "found", "number", "kind", "first", "nights", "later", "free", "many", "room", "state", "more"] ["rooms", "stays", "choices", "told"] (defScope (top 54)) := ⟨rfl, rfl, rfl, by decide +kernel, rfl, by decide +kernel, by decide +kernel⟩
abbrev NMany : List Str := ["rooms", "stays", "choices", "told", "found", "number", "kind", "first", "nights", "later", "free", "many", "room", "state", "more"]
abbrev MArg := Int × Bool × List Stay × List (List Int) × List (Option Int)
def MPre (a : MArg) : Prop := 0 ≤ a.1 ∧ a.1 ≤ 5 ∧ a.2.2.1.length ≤ 8 ∧ a.2.2.2.1.length = a.2.2.1.length ∧ a.2.2.2.2.length = a.2.2.1.length ∧ ∀ l ∈ a.2.2.2.1, l.length ≤ 5 ∧ ∀ r ∈ l, 0 ≤ r ∧ r < a.1
section
variable (K : PySem.W.Frag) (T : Tbl)
abbrev sp_in_order : Sp := spN (α := Bool × List Stay) K T (fun a => [.d (staysB a.1 a.2)]) (fun a => a.2.length ≤ 1000) (fun a => .d (.list ((inOrder a.2).map fun (n : Nat) => PyData.int (n : Int))))
abbrev sp_many : Sp := spN (α := MArg) K T (fun a => [.d (.int a.1), .d (staysB a.2.1 a.2.2.1), .d (chD a.2.2.2.1), .d (toldD a.2.2.2.2)]) MPre (fun a => .d (optD (manyO a.1.toNat a.2.2.1 a.2.2.2.1 a.2.2.2.2)))
end
section
variable {P : Program} {w : World} {K : PySem.W.Frag} {mg : Str → Option Value} {base : Heap} {T : Tbl} {f : Addr} {fd : FuncData}
theorem ok_many (F : Fun K "many_otherwise" "many_otherwise" (top 54) f fd) (B : Bn mg) (D1 : Dfn P w K mg base "in_order" 4 ["stays"] (sp_in_order K T)) (D2 : Dfn P w K mg base "taken" 1 ["free", "room", "first", "end"] (spTk K T)) : FnOk P w K mg base CX0 5 f fd ["rooms", "stays", "choices", "told"] (sp_many K T) := by
  obtain ⟨ft, fdt, FT, hmt, hkt, hbt⟩ := D2.ex
  refine fn_mkN F sc_many (fun _ => rfl) fun cdv A outer s H E hr a hp => ⟨.rt (.d (optD (manyO a.1.toNat a.2.2.1 a.2.2.2.1 a.2.2.2.2))), ?_, rfl⟩
  have hu1 : (A.deeper (PyProof.Rows.envOfC "many_otherwise" (defScope (top 54)) s.heap.objs.size f cdv)).units + 1 < cLine := by have := hr.units; omega
  refine evb_of (pss_cons (ps_set (i := 4) (nd_ok rfl) rfl (.inl rfl) (pe_disp1T hu1 (pe_op op_rep1 (pe_tup (pa_cons pe_int pa_nil)) (pe_best _)) pe_int))
    (pss_cons (ps_for PassesOwn.never rfl (pi_list (pe_best _)) (pg_name (i := 5) (nd_ok rfl) rfl (.inl rfl))
      (pss_cons (ps_asg (pe_best _) (pg_tup rfl (pgs_cons (pg_name (i := 6) (nd_ok rfl) rfl (.inl rfl)) (pgs_cons (pg_name (i := 7) (nd_ok rfl) rfl (.inl rfl)) (pgs_cons (pg_name (i := 8) (nd_ok rfl) rfl (.inl rfl)) pgs_nil))))) (pss_cons (ps_set (i := 9) (nd_ok rfl) rfl (.inl rfl) pe_dnewT) (pss_cons (ps_lock (ps_for PassesOwn.never rfl (pi_itemsT (pe_var (i := 4) rfl (.inl rfl))) (pg_tup rfl (pgs_cons (pg_name (i := 10) (nd_ok rfl) rfl (.inl rfl)) (pgs_cons (pg_name (i := 11) (nd_ok rfl) rfl (.inl rfl)) pgs_nil)))
        (pss_one (ps_for PassesOwn.never rfl (pi_list (pe_best _)) (pg_name (i := 12) (nd_ok rfl) rfl (.inl rfl)) (pss_one (ps_if (pt_best _)
          (pss_cons (ps_set (i := 13) (nd_ok rfl) rfl (.inl rfl) (pe_call FT (hr.mono (by decide)) rfl hmt hkt hbt .nil pass0 (pa_best _))) (pss_cons (ps_set (i := 14) (nd_ok rfl) rfl (.inl rfl) (pe_best _)) (pss_one (ps_dput hu1 (pe_var (i := 9) rfl (.inl rfl)) (pe_var (i := 13) rfl (.inl rfl))
            (pe_callB (call_min2 rfl) rfl B.min (by decide +kernel) (pa_cons (pe_dget2 hu1 (pe_var (i := 9) rfl (.inl rfl)) (pe_var (i := 13) rfl (.inl rfl)) (pe_best _) ⟨rfl, rfl, rfl, rfl⟩) (pa_cons (pe_best _) pa_nil))) rfl))))
          pss_nil)))))) (pss_one (ps_set (i := 4) (nd_ok rfl) rfl (.inl rfl) (pe_var (i := 9) rfl (.inl rfl))))))))
      (pss_one (ps_ret (pe_ifExp (pt_cmpR (op_ne0 hr.units) (pe_var (i := 4) rfl (.inl rfl)) pe_dnewT (nomark _)) (pe_minValsT rfl rfl B.min (pe_var (i := 4) rfl (.inl rfl))) pe_non))))) fun S σ H0 ad D k => ?_
  obtain ⟨rooms, sb, st, ch, told⟩ := a
  obtain ⟨h0, h5, hst8, hch, htl, hlr⟩ := hp
  dsimp only at h0 h5 hst8 hch htl hlr
  have hlen : σ.length = 15 := ad.sd.len
  have nS : ∀ p, H0 p = none → ¬ S p := fun p hp => ad.sok.fresh hp
  refine seq_asg (ed_tab0 (T := T) (rooms := rooms) (ev_n 0) ⟨h0, by omega⟩ ad fun p H1 hpn g1 hp1 => name_set ?_)
  have ad1 := (ad.grow g1).forget 4 (v := some (.ref p))
  refine seq_id (for_id (Ev.run (T := T) (r := .d (.list ((inOrder st).map fun (n : Nat) => PyData.int (n : Int)))) (ev_callI D1 (hr.mono (by decide)) (sb, st) (eva_cons (ev_n 1) eva_nil) (Nat.le_trans hst8 (by decide)) rfl) ad1 fun v H2 g2 r2 => ?_))
  obtain ⟨al, xs, rfl, hal, hxs⟩ := Rp.lst_inv r2
  have exs : xs = (inOrder st).map fun (n : Nat) => V.int (n : Int) := by
    have e : xs = ((inOrder st).map fun (n : Nat) => (n : Int)).map V.int := RpA.ints (K := K) (S := S) (H := H2) (by rw [List.map_map]; exact hxs)
    rw [e, List.map_map]
    rfl
  have hp2 : H2 p = some (.dT (encT (tab0 rooms.toNat))) := g2.1 _ _ hp1 (fun ps z => by cases z)
  refine ⟨al, rfl, ⟨xs, hal.sq⟩, loop_list (S := S) hal (fun i σ' H' => Gr T H0 H' ∧ Ad K T S H' σ' (startD NMany [.d (.int rooms), .d (staysB sb st), .d (chD ch), .d (toldD told)]) ∧
    ∃ d, σ'[4]? = some (some (.ref d)) ∧ ¬ S d ∧ H' d = some (.dT (encT (((inOrder st).take i).foldl (stepNum st ch told) (tab0 rooms.toNat)))) ∧ TabOk rooms.toNat (((inOrder st).take i).foldl (stepNum st ch told) (tab0 rooms.toNat)) ∧ (((inOrder st).take i).foldl (stepNum st ch told) (tab0 rooms.toNat)).length ≤ 5 ^ i) ?_ ?_ ?_⟩
  · refine ⟨g1.trans g2, ad1.grow g2, p, by rw [List.getElem?_set_self (by rw [hlen]; decide)], nS p hpn, hp2, fun q hq => ?_, ?_⟩
    · rw [List.take_zero] at hq
      rw [List.mem_singleton.mp hq]
      exact List.length_replicate ..
    · rw [List.take_zero]
      exact Nat.le_refl 1
  · intro i x σ1 H3 hx hal1 ⟨gI, adI, d, hd4, hd0, hdI, htab, hsz⟩
    have hlI : σ1.length = 15 := adI.sd.len
    rw [exs, List.getElem?_map] at hx
    obtain ⟨n, hn, rfl⟩ := Option.map_eq_some_iff.mp hx
    have hil : i < (inOrder st).length := (List.getElem?_eq_some_iff.mp hn).1
    have hnm : n ∈ inOrder st := List.mem_of_getElem? hn
    have hns := inOrder_lt st n hnm
    have etk : (inOrder st).take (i + 1) = (inOrder st).take i ++ [n] := by
      rw [List.take_add_one, hn]
      rfl
    rw [etk, List.foldl_append]
    generalize hfound : ((inOrder st).take i).foldl (stepNum st ch told) (tab0 rooms.toNat) = found at hdI htab hsz ⊢
    have hi8 : i ≤ 7 := by
      have : (inOrder st).length = st.length := by unfold inOrder; rw [List.length_mergeSort, List.length_range]
      omega
    have h5i : 5 ^ i ≤ 78125 := Nat.le_trans (Nat.pow_le_pow_right (by decide) hi8) (by decide)
    refine name_set ?_
    have adn := adI.set 5 (v := .int (n : Int)) (e := .d (.int (n : Int))) (Rp.int _)
    have hsn : st[n]? = some st[n] := List.getElem?_eq_getElem hns
    refine seq_asg (Ev.run (T := T) (r := .d (stayD st[n])) ?_ adn fun v H4 g4 r4 => ?_)
    · refine ev_ixB (q := sb) (ds := st.map stayD) (ev_n 1) (ev_n 5) ?_
      rw [atI_nat (by omega) (by rw [List.length_map]; omega), List.getElem?_map]
      rw [show ((n : Int)).toNat = n by omega, hsn]
      rfl
    obtain ⟨sa, sx, rfl, hsa, hsx⟩ := Rp.tup_inv r4
    have esx : sx = [V.int st[n].1, V.int st[n].2.1, V.int st[n].2.2] := RpA.ints (K := K) (S := S) (H := H4) (ns := [st[n].1, st[n].2.1, st[n].2.2]) hsx
    subst esx
    refine ⟨sa, _, rfl, hsa, rfl, _, _, rfl, name_set ⟨_, _, rfl, name_set ⟨_, _, rfl, name_set ⟨rfl, ?_⟩⟩⟩⟩
    have ad4 := (((adn.grow g4).set 6 (v := .int st[n].1) (e := .d (.int st[n].1)) (Rp.int _)).set 7 (v := .int st[n].2.1) (e := .d (.int st[n].2.1)) (Rp.int _)).set 8 (v := .int st[n].2.2) (e := .d (.int st[n].2.2)) (Rp.int _)
    have hd4' : H4 d = some (.dT (encT found)) := g4.1 _ _ hdI (fun ps z => by cases z)
    refine seq_asg fun l hl4 => name_set ?_
    have gl4 : Gr T H4 (upd H4 l (.dT [])) := Gr.new hl4
    have nSl : ¬ S l := ad4.sok.fresh hl4
    have nSd := hd0
    have hdl : d ≠ l := ne_of_none hd4' hl4
    have ad5 := (ad4.grow gl4).forget 9 (v := some (.ref l))
    have hd5 : (upd H4 l (.dT [])) d = some (.dT (encT found)) := by rw [upd_ne hdl]; exact hd4'
    have hnc : n < ch.length := by omega
    have hnt : n < told.length := by omega
    have hcn : ch[n]? = some (ch.getD n []) := by
      rw [List.getD_eq_getElem?_getD, List.getElem?_eq_getElem hnc]
      rfl
    have htn : told[n]? = some (told.getD n none) := by
      rw [List.getD_eq_getElem?_getD, List.getElem?_eq_getElem hnt]
      rfl
    have hsg : st.getD n (0, 0, 0) = st[n] := by
      rw [List.getD_eq_getElem?_getD, hsn]
      rfl
    obtain ⟨hrl, hrr⟩ := hlr (ch.getD n []) (List.mem_of_getElem? hcn)
    generalize hrooms : ch.getD n [] = rs at hcn hrl hrr
    generalize hown : told.getD n none = own at htn
    have hstep : stepNum st ch told found n = found.foldl (stepState st[n] own rs) [] := by
      unfold stepNum
      rw [hsg, hrooms, hown]
    refine seq_id ⟨d, .dT (encT found), hd5, trivial, fun od => for_id ⟨.ref d, ?_, d, od, encT found, rfl, upd_same, loop_items upd_same (fun j σ' H' => Gr T H4 (upd H' d (.dT (encT found))) ∧
      Ad K T S H' σ' [some (.d (.int rooms)), some (.d (staysB sb st)), some (.d (chD ch)), some (.d (toldD told)), none, some (.d (.int (n : Int))), some (.d (.int st[n].1)), some (.d (.int st[n].2.1)), some (.d (.int st[n].2.2)), none, none, none, none, none, none] ∧
      σ'[9]? = some (some (.ref l)) ∧ H' l = some (.dT (encT ((found.take j).foldl (stepState st[n] own rs) []))) ∧ TabOk rooms.toNat ((found.take j).foldl (stepState st[n] own rs) []) ∧ SL K S H' al xs) ?_ ?_ ?_⟩⟩
    · rw [List.getElem?_set_ne (by decide), List.getElem?_set_ne (by decide), List.getElem?_set_ne (by decide), List.getElem?_set_ne (by decide), List.getElem?_set_ne (by decide)]
      exact hd4
    · refine ⟨?_, ad5.mutD hd5 DK.t nSd, ?_, ?_, fun q hq => by simp at hq, ?_⟩
      · rw [upd_upd]
        exact gl4.mut_same hd5
      · rw [List.getElem?_set_self (by simp [hlI])]
      · rw [upd_ne hdl.symm, upd_same]
        rfl
      · exact ((hal1.grow g4).grow gl4).mutD hd5 DK.t
    · intro j k v q Tq σ5 H6 hkv hq hTq hd6 ⟨gJ, adJ, h9, hlJ, htJ, halJ⟩
      obtain ⟨pj, hpj, rfl, rfl⟩ := enc_get hkv
      have hjl : j < found.length := (List.getElem?_eq_some_iff.mp hpj).1
      have l5 : σ5.length = 15 := adJ.sd.len
      rw [kV_inl] at hq
      refine ⟨Tq, _, rfl, SqT.of upd_same, rfl, _, _, rfl, name_set ⟨_, _, rfl, name_set ⟨rfl, ?_⟩⟩⟩
      have gT : Gr T H6 (upd H6 Tq (.tup [.ref q, .int pj.2])) := Gr.new hTq
      have hq7 : (upd H6 Tq (.tup [.ref q, .int pj.2])) q = some (.tup (pj.1.map V.int)) := gT.1 _ _ hq (fun ps z => by cases z)
      have ad7 := ((adJ.grow gT).set 10 (v := .ref q) (e := .d (intsD pj.1)) (Rp.tup (SqT.of hq7) (RpA.of_ints _))).set 11 (v := .int pj.2) (e := .d (.int pj.2)) (Rp.int _)
      have hd7 : (upd H6 Tq (.tup [.ref q, .int pj.2])) d = some (.frz od (.dT (encT found))) := gT.1 _ _ hd6 (fun ps z => by cases z)
      have hl7 : (upd H6 Tq (.tup [.ref q, .int pj.2])) l = some (.dT (encT ((found.take j).foldl (stepState st[n] own rs) []))) := gT.1 _ _ hlJ (fun ps z => by cases z)
      have g7 := gJ.locked hd4' gT hd7 DK.f ad7.tab
      have hal7 := halJ.grow gT
      generalize (upd H6 Tq (.tup [.ref q, .int pj.2])) = H7 at hq7 ad7 hd7 hl7 g7 hal7 ⊢
      have hpl : pj.1.length = rooms.toNat := htab pj (List.mem_of_getElem? hpj)
      have hjlen : ((found.take j).foldl (stepState st[n] own rs) []).length ≤ j * 5 := by
        have := states_len st[n] own rs 5 hrl (found.take j) []
        rw [List.length_take] at this
        have h3 : min j found.length = j := by omega
        rw [h3] at this
        simpa using this
      generalize hlater : (found.take j).foldl (stepState st[n] own rs) [] = later at hl7 htJ hjlen
      have enext : (found.take (j + 1)).foldl (stepState st[n] own rs) [] = stepState st[n] own rs later pj := by
        rw [List.take_add_one, hpj, List.foldl_append, hlater]
        rfl
      have h9' : (((σ5.set 10 (some (.ref q))).set 11 (some (.int pj.2))))[9]? = some (some (.ref l)) := by
        rw [List.getElem?_set_ne (by decide), List.getElem?_set_ne (by decide)]
        exact h9
      generalize (σ5.set 10 (some (.ref q))).set 11 (some (.int pj.2)) = σ7 at ad7 h9' ⊢
      refine for_id (Ev.run (T := T) (r := .d (.list (rs.map .int))) ?_ ad7 fun v8 H8 g8 r8 => ?_)
      · refine ev_ixL (ds := ch.map fun l => .list (l.map .int)) (ev_n 2) (ev_n 5) ?_
        rw [atI_nat (by omega) (by rw [List.length_map]; omega), List.getElem?_map, show ((n : Int)).toNat = n by omega, hcn]
        rfl
      obtain ⟨a3, xs3, rfl, hal3, hxs3⟩ := Rp.lst_inv r8
      have exs3 : xs3 = rs.map V.int := RpA.ints hxs3
      refine ⟨a3, rfl, ⟨xs3, hal3.sq⟩, loop_list (S := S) hal3 (fun i σ' H' => Gr T H4 (upd H' d (.dT (encT found))) ∧
        Ad K T S H' σ' [some (.d (.int rooms)), some (.d (staysB sb st)), some (.d (chD ch)), some (.d (toldD told)), none, some (.d (.int (n : Int))), some (.d (.int st[n].1)), some (.d (.int st[n].2.1)), some (.d (.int st[n].2.2)), none, some (.d (intsD pj.1)), some (.d (.int pj.2)), none, none, none] ∧
        σ'[9]? = some (some (.ref l)) ∧ H' l = some (.dT (encT ((rs.take i).foldl (stepRoom st[n] own pj) later))) ∧ TabOk rooms.toNat ((rs.take i).foldl (stepRoom st[n] own pj) later) ∧ SL K S H' al xs ∧ H' d = some (.frz od (.dT (encT found)))) ?_ ?_ ?_⟩
      · have hd8 : H8 d = some (.frz od (.dT (encT found))) := g8.1 _ _ hd7 (fun ps z => by cases z)
        exact ⟨g7.locked hd4' g8 hd8 DK.f (ad7.grow g8).tab, ad7.grow g8, h9', g8.1 _ _ hl7 (fun ps z => by cases z), htJ, hal7.grow g8, hd8⟩
      · intro i xr σ9 H9 hxr hal9 ⟨gR, adR, hR9, hlR, htR, halR, hdR⟩
        rw [exs3, List.getElem?_map] at hxr
        obtain ⟨r, hr1, rfl⟩ := Option.map_eq_some_iff.mp hxr
        have hil3 : i < rs.length := (List.getElem?_eq_some_iff.mp hr1).1
        have hrb := hrr r (List.mem_of_getElem? hr1)
        have l9 : σ9.length = 15 := adR.sd.len
        have enx : (rs.take (i + 1)).foldl (stepRoom st[n] own pj) later = stepRoom st[n] own pj ((rs.take i).foldl (stepRoom st[n] own pj) later) r := by
          rw [List.take_add_one, hr1, List.foldl_append]
          rfl
        have hcl : ((rs.take i).foldl (stepRoom st[n] own pj) later).length < sizeLine := by
          have h1 := stepState_len st[n] own pj (rs.take i) later
          unfold stepState at h1
          rw [List.length_take] at h1
          have h2 : min i rs.length ≤ 5 := by omega
          have h3 : (400000 : Nat) < sizeLine := by decide
          omega
        rw [enx]
        generalize hcur : (rs.take i).foldl (stepRoom st[n] own pj) later = cur at hlR htR hcl ⊢
        have adr := adR.set 12 (v := .int r) (e := .d (.int r)) (Rp.int _)
        refine name_set ?_
        have hfr : r.toNat < pj.1.length := by omega
        have hfree : atI (pj.1.map PyData.int) r = some (.int (pj.1.getD r.toNat 0)) := by
          rw [atI_nat hrb.1 (by rw [List.length_map]; omega), List.getElem?_map, List.getElem?_eq_getElem hfr, List.getD_eq_getElem?_getD, List.getElem?_eq_getElem hfr]
          rfl
        refine Evt.run (T := T) (b := decide (pj.1.getD r.toNat 0 ≤ st[n].2.1)) (evt_le (ev_ixT (ds := pj.1.map .int) (ev_n 10) (ev_n 12) hfree) (ev_n 7)) adr fun H10 g10 => ?_
        have hd10 : H10 d = some (.frz od (.dT (encT found))) := g10.1 _ _ hdR (fun ps z => by cases z)
        have hl10 : H10 l = some (.dT (encT cur)) := g10.1 _ _ hlR (fun ps z => by cases z)
        have gR10 := gR.locked hd4' g10 hd10 DK.f (adr.grow g10).tab
        by_cases hcond : pj.1.getD r.toNat 0 ≤ st[n].2.1
        · rw [decide_eq_true hcond]
          have estep : stepRoom st[n] own pj cur r = putT cur (takenI pj.1 r st[n].2.1 (st[n].2.1 + st[n].2.2)) (min ((getT cur (takenI pj.1 r st[n].2.1 (st[n].2.1 + st[n].2.2))).getD (pj.2 + offI own r)) (pj.2 + offI own r)) := by
            unfold stepRoom
            rw [if_pos hcond]
          rw [estep]
          generalize hkey : takenI pj.1 r st[n].2.1 (st[n].2.1 + st[n].2.2) = key
          have hkl : key.length = rooms.toNat := by rw [← hkey, takenI_len, hpl]
          refine seq_asg (Eva.run (T := T) (r := [.d (intsD pj.1), .d (.int r), .d (.int st[n].2.1), .d (.int (st[n].2.1 + st[n].2.2))]) (eva_cons (ev_n 10) (eva_cons (ev_n 12) (eva_cons (ev_n 7) (eva_cons (ev_add (ev_n 7) (ev_n 8)) eva_nil)))) (adr.grow g10) fun vs11 H11 g11 r11 => ?_)
          have ad11 := (adr.grow g10).grow g11
          refine ⟨S, (pj.1, r, st[n].2.1, st[n].2.1 + st[n].2.2), ad11.sok, ad11.tab, by rw [List.append_nil]; exact r11, ⟨hrb.1, by show r < (pj.1.length : Int); omega, by show pj.1.length ≤ 1000; omega⟩, fun b H12 g12 hb => name_set ?_⟩
          have hb : H12 b = some (.tup (key.map V.int)) := by rw [← hkey]; exact hb
          have g1012 := g11.trans g12
          have ad12 := ((ad11.grow g12).set 13 (v := .ref b) (e := .d (intsD key)) (Rp.tup (SqT.of hb) (RpA.of_ints _)))
          refine seq_asg (Ev.run (T := T) (r := .d (.int (pj.2 + offI own r))) ?_ ad12 fun v13 H13 g13 r13 => ?_)
          · have htold : atI (told.map optD) (n : Int) = some (optD own) := by
              rw [atI_nat (by omega) (by rw [List.length_map]; omega), List.getElem?_map, show ((n : Int)).toNat = n by omega, htn]
              rfl
            refine ev_add (ev_n 11) (ev_is (ev_intB (u := !own.isNone && !decide (own = some r)) B ?_) ?_)
            · cases hown2 : own with
              | none =>
                refine ev_is (ev_and (u := false) (v := false) (ev_is (ev_notN (ev_ixT (ds := told.map optD) (ev_n 3) (ev_n 5) htold)) ?_) fun z => by cases z) ?_
                · rw [isNo_opt, hown2]; rfl
                · rfl
              | some o =>
                rw [hown2] at htold
                refine ev_is (ev_and (u := true) (v := !decide (o = r)) (ev_is (ev_notN (ev_ixT (ds := told.map optD) (ev_n 3) (ev_n 5) htold)) ?_) fun z => ev_one (ev_ne (ev_ixT (ds := told.map optD) (ev_n 3) (ev_n 5) htold) (ev_n 12))) ?_
                · rfl
                · simp
            · unfold offI
              cases own with
              | none => rfl
              | some o =>
                by_cases e : o = r
                · simp [e]
                · simp [e]
          obtain rfl := Rp.int_inv r13
          refine name_set ?_
          have ad13 := (ad12.grow g13).set 14 (v := .int (pj.2 + offI own r)) (e := .d (.int (pj.2 + offI own r))) (Rp.int _)
          generalize hmore : pj.2 + offI own r = more at ad13 ⊢
          have hσ9 : (((σ9.set 12 (some (.int r))).set 13 (some (.ref b))).set 14 (some (.int more)))[9]? = some (some (.ref l)) := by
            rw [List.getElem?_set_ne (by decide), List.getElem?_set_ne (by decide), List.getElem?_set_ne (by decide)]
            exact hR9
          have hσ13 : (((σ9.set 12 (some (.int r))).set 13 (some (.ref b))).set 14 (some (.int more)))[13]? = some (some (.ref b)) := by
            rw [List.getElem?_set_ne (by decide), List.getElem?_set_self (by simp [l9])]
          have hl13 : H13 l = some (.dT (encT cur)) := ((g1012.trans g13).1 _ _ hl10 (fun ps z => by cases z))
          have hb13 : H13 b = some (.tup (key.map V.int)) := g13.1 _ _ hb (fun ps z => by cases z)
          have gA : Gr T H10 H13 := g1012.trans g13
          refine ⟨.ref l, hσ9, l, rfl, .inr ⟨_, .inl hl13⟩, .ref b, hσ13, Ev.run (T := T) (r := .d (.int more)) (ev_n 14) ad13 fun v14 H14 g14 r14 => ?_⟩
          obtain rfl := Rp.int_inv r14
          have hl14 : H14 l = some (.dT (encT cur)) := g14.1 _ _ hl13 (fun ps z => by cases z)
          have hb14 : H14 b = some (.tup ((key.map Sum.inl : TK).map kV)) := by rw [kV_inl]; exact g14.1 _ _ hb13 (fun ps z => by cases z)
          refine ⟨_, DGet.t hl14 hb14, Ev.run (T := T) (r := .d (.int more)) (ev_n 14) (ad13.grow g14) fun v15 H15 g15 r15 => ?_⟩
          obtain rfl := Rp.int_inv r15
          have hl15 : H15 l = some (.dT (encT cur)) := g15.1 _ _ hl14 (fun ps z => by cases z)
          have hb15 : H15 b = some (.tup ((key.map Sum.inl : TK).map kV)) := g15.1 _ _ hb14 (fun ps z => by cases z)
          have ev1 : (valV (encT cur) (key.map Sum.inl : TK)).getD (V.int more) = V.int ((getT cur key).getD more) := by
            rw [enc_val]
            cases getT cur key <;> rfl
          refine ⟨(getT cur key).getD more, more, by rw [ev1], .ref l, hσ9, .ref b, hσ13, l, _, rfl, DPut.t hl15 hb15 (by rw [enc_len]; exact hcl), ?_⟩
          have emin : (if more < (getT cur key).getD more then more else (getT cur key).getD more) = min ((getT cur key).getD more) more := by
            split <;> omega
          rw [emin, enc_put]
          have g1015 : Gr T H10 H15 := (gA.trans g14).trans g15
          have hd15 : H15 d = some (.frz od (.dT (encT found))) := g1015.1 _ _ hd10 (fun ps z => by cases z)
          have ad15 := (adR.grow g10).grow g1015
          have gL15 := gR10.locked hd4' g1015 hd15 DK.f ad15.tab
          have ldl : (upd H15 d (.dT (encT found))) l = some (.dT (encT cur)) := by rw [upd_ne hdl.symm]; exact hl15
          refine ⟨((hal9.grow g10).grow g1015).mutD hl15 DK.t, ?_, ?_, hσ9, upd_same, ?_, ((halR.grow g10).grow g1015).mutD hl15 DK.t, ?_⟩
          · rw [upd_comm hdl.symm]
            exact gL15.mutD hl4 ldl DK.t
          · exact (((ad15.mutD hl15 DK.t nSl).forget 12).forget 13).forget 14
          · exact tabOk_put htR hkl
          · rw [upd_ne hdl]
            exact hd15
        · rw [decide_eq_false hcond]
          have estep : stepRoom st[n] own pj cur r = cur := by
            unfold stepRoom
            rw [if_neg hcond]
          rw [estep]
          refine ⟨hal9.grow g10, gR10, ?_, ?_, hl10, htR, halR.grow g10, hd10⟩
          · exact (adR.grow g10).forget 12
          · rw [List.getElem?_set_ne (by decide)]
            exact hR9
      · intro σ9 H9 ⟨gR, adR, hR9, hlR, htR, halR, hdR⟩
        have er : (rs.take xs3.length).foldl (stepRoom st[n] own pj) later = stepState st[n] own rs later pj := by
          rw [exs3, List.length_map, List.take_length]
          rfl
        rw [er] at hlR htR
        refine ⟨hdR, gR, (adR.hide 10).hide 11, hR9, ?_, ?_, halR⟩
        · rw [enext]; exact hlR
        · rw [enext]; exact htR
    · intro σ6 H6 hd6 ⟨gJ, adJ, h9, hlJ, htJ, halJ⟩
      refine ⟨hd6, ?_⟩
      have el : (found.take (encT found).length).foldl (stepState st[n] own rs) [] = stepNum st ch told found n := by
        rw [enc_len, List.take_length, hstep]
      rw [el] at hlJ htJ
      refine asg_id (te := tVar 9) (g := gName 4) ⟨.ref l, h9, name_set ⟨halJ.mutD hd6 DK.f, (gI.trans g4).trans gJ, ?_, l, ?_, nSl, ?_, htJ, ?_⟩⟩
      · have adK := (adJ.mutD (u := .dT (encT found)) hd6 DK.f nSd).forget 4 (v := some (.ref l))
        exact ((((adK.hide 5).hide 6).hide 7).hide 8)
      · rw [List.getElem?_set_self (by rw [adJ.sd.len]; show 4 < 15; decide)]
      · rw [upd_ne hdl.symm]
        exact hlJ
      · rw [List.foldl_cons, List.foldl_nil, hstep]
        have := states_len st[n] own rs 5 hrl found []
        rw [Nat.pow_succ]
        simp at this
        omega
  · intro σ' H' ⟨gF, adF, d, hd4, hd0, hdF, _, _⟩
    have etake : (inOrder st).take xs.length = inOrder st := by rw [exs, List.length_map, List.take_length]
    rw [etake] at hdF
    have hlF : σ'.length = 15 := adF.sd.len
    refine ⟨.ref d, hd4, fun e0 he0 => ⟨d, e0, encT (tabOf rooms.toNat st ch told), rfl, rfl, .inl ?_, upd_same, ?_⟩⟩
    · rw [upd_ne (ne_of_none hdF he0)]
      exact hdF
    · have gE : Gr T H0 (upd H' e0 (.dT [])) := gF.trans (Gr.new he0)
      have hdE : (upd H' e0 (.dT [])) d = some (.dT (encT (tabOf rooms.toNat st ch told))) := by
        rw [upd_ne (ne_of_none hdF he0)]
        exact hdF
      have adE := adF.grow (Gr.new (T := T) (o := .dT []) he0)
      refine ⟨_, rfl, ?_⟩
      have em : manyO rooms.toNat st ch told = match tabOf rooms.toNat st ch told with
          | [] => none
          | p :: r => some (minL ((p :: r).map (·.2))) := rfl
      cases ht : tabOf rooms.toNat st ch told with
      | nil =>
        rw [ht] at em
        refine k _ _ gE adE.sok adE.tab ?_
        show Rp K S _ _ (optD (manyO rooms.toNat st ch told))
        rw [em]
        exact Rp.non
      | cons p0 r0 =>
        rw [ht] at em
        rw [ht] at hdE
        refine ⟨.ref d, hd4, d, encT (p0 :: r0), (p0 :: r0).map (·.2), rfl, .inl hdE, ?_, by simp, fun m hm hle => ?_⟩
        · unfold encT
          rw [List.map_map, List.map_map]
          rfl
        · have e2 : m = minL ((p0 :: r0).map (·.2)) := Int.le_antisymm (hle _ (minL_mem (by simp))) (minL_le m hm)
          refine k _ _ gE adE.sok adE.tab ?_
          show Rp K S _ _ (optD (manyO rooms.toNat st ch told))
          rw [em, e2]
          exact Rp.int _
end
end N

namespace N
open PySem L2 LamX
/-! ### mirrors -/
def narrowI (ch : List (List Int)) (n : Nat) (r : Int) : List (List Int) := ch.take n ++ [[r]] ++ ch.drop (n + 1)
def nones (n : Nat) : List (Option Int) := List.replicate n none
def leastGo (rooms : Nat) (st : List Stay) (told : List (Option Int)) (many : Int) : List Nat → List (List Int) → Option (List (List Int))
  | [], ch => some ch
  | n :: ns, ch => match ((ch.getD n []).map (narrowI ch n)).find? fun one => decide (manyO rooms st one told = some many) with
    | none => none
    | some c => leastGo rooms st told many ns c
def leastO (rooms : Nat) (st : List Stay) (ch : List (List Int)) (told : List (Option Int)) (many : Int) : Option (List Int) := match leastGo rooms st told many (List.range st.length) ch with
  | none => none
  | some c => if (c.all fun l => !l.isEmpty) = true then some (c.map fun l => l.headD 0) else none
def chosenL (h : List Int) (st : List Stay) (told : List (Option Int)) : List (List Int) := List.zipWith (fun s own => (roomsOf h s).filter fun r => decide (own = none) || decide (own = some r)) st told
def freeL (h : List Int) (st : List Stay) : List (List Int) := st.map (roomsOf h)
def planWith (h : List Int) (st : List Stay) (told : List (Option Int)) : Option (List Int) := match manyO h.length st (chosenL h st told) (nones st.length) with
  | none => none
  | some _ => leastO h.length st (chosenL h st told) (nones st.length) 0
def lotsGo (n : Nat) : List (List Int) := (List.range n).foldl (fun f (i : Nat) => f ++ f.map (· ++ [(i : Int)])) [[]]
def lotsOf (n : Nat) : List (List Int) := sortLots (lotsGo n)
def lotStays (st : List Stay) (lot : List Int) : List Stay := lot.map fun i => st.getD i.toNat (0, 0, 0)
def haveB (h : List Int) (st : List Stay) (lot : List Int) : Bool := (manyO h.length (lotStays st lot) (freeL h (lotStays st lot)) (nones lot.length)).isSome
def meetB (a b : Stay) : Bool := decide (a.2.1 < b.2.1 + b.2.2) && decide (b.2.1 < a.2.1 + a.2.2)
def optL : Option (List Int) → PyData
  | none => .none
  | some l => intsD l
theorem evi_r1' {T : Tbl} {X : Cx} {δ : Sl} {a tg : Expr} {p pos : Pos} {n : Nat} {m : Int} (B : Bn X.mg) (h : Ev T X a δ (.d (.int m))) (hm : m = (n : Int)) (hn : n ≤ 1000 := by decide) (hg : Gl X "range" := by rfl) (hs : starEach [a] X.env = (false, eval a X.env) :: starEach [] X.env := by rfl) : Evi T X tg (.Call (.Name "range" p) [a] [] pos) δ ((List.range n).map fun (i : Nat) => PyData.int (i : Int)) := by
  subst hm
  exact evi_r1 B h (by omega) hg hs
theorem cutD_to {α : Type} (xs : List α) (n : Nat) (h : n ≤ xs.length) : cutD xs none (some (n : Int)) = xs.take n := by
  unfold cutD
  have e : HT.sIx xs.length xs.length (some (n : Int)) = n := by rw [HT.sIx_nat]; omega
  rw [e]
  show (xs.drop 0).take (n - 0) = _
  simp
theorem cutD_from {α : Type} (xs : List α) (n : Nat) (h : n + 1 ≤ xs.length) : cutD xs (some ((n : Int) + 1)) none = xs.drop (n + 1) := by
  unfold cutD
  have e : HT.sIx xs.length 0 (some ((n : Int) + 1)) = n + 1 := by
    have := HT.sIx_nat xs.length 0 (n + 1)
    rw [show (((n + 1 : Nat)) : Int) = (n : Int) + 1 by omega] at this
    rw [this]
    omega
  rw [e]
  show (xs.drop (n + 1)).take (xs.length - (n + 1)) = _
  rw [List.take_of_length_le (by simp)]
structure FunC (K : PySem.W.Frag) (x qual : Str) (st : Stmt) (f : Addr) (fd : FuncData) (c : Addr) : Prop where
  ex : ∃ (oc : Value) (od : Option Addr) (kV doc pm : Value) (an : Option Addr) (ct : Value) (osl : Array (Option Value)),
    fd = PySem.W.fnOf x qual (defArgs st) (defBody st) (defScope st) .none kV doc pm an (.ref c) ct ∧ K.lookup f = some ⟨oc, od, .func fd, osl⟩ ∧ PySem.W.codeIn K (.ref c) qual = true
  kp : PySem.W.keepIn K (.ref f) = true
theorem FunC.fn {K : PySem.W.Frag} {x qual : Str} {st : Stmt} {f c : Addr} {fd : FuncData} (F : FunC K x qual st f fd c) : Fun K x qual st f fd := by
  obtain ⟨oc, od, kV, doc, pm, an, ct, osl, h1, h2, h3⟩ := F.ex
  exact ⟨⟨oc, od, kV, doc, pm, an, .ref c, ct, osl, h1, h2, h3⟩, F.kp⟩
structure LmOk (base : Heap) (mg : Str → Option Value) (T : Tbl) (c P : Addr) (q : Str) : Prop where
  tb : TabB base mg c P
  mem : (P, q) ∈ T
  uq : ∀ p ∈ T, p.1 = P → p.2 = q
section
variable {P : Program} {w : World} {K : PySem.W.Frag} {mg : Str → Option Value} {base : Heap} {T : Tbl}
theorem FunC.ok {x qual : Str} {st : Stmt} {f c : Addr} {fd : FuncData} {N ps : List Str} {k : Nat} {sp : Sp} (F : FunC K x qual st f fd c) (S : FnScope N ps (defScope st)) (len : ∀ vs H Q E, sp vs H Q E → vs.length = ps.length)
    (hbody : ∀ (A : Around) (outer : List Env) (s : Shared) (H : Hp) (vs : List V) (Q : VK) (E : XK), Room k (A.deeper (PyProof.Rows.envOfC qual (defScope st) s.heap.objs.size f (.ref c))) → sp vs H Q E →
      ∃ t, PSs (cxOf CX0 P w K mg base N qual (defScope st) f (.ref c) A outer s H E).nox (defBody st) t ∧ t { nx := fun _ H' => Q .non H', rt := Q } (L2.start N vs) H) : FnOk P w K mg base CX0 (k + 1) f fd ps sp := by
  obtain ⟨oc, od, kV, doc, pm, an, ct, osl, rfl, lk, hcd⟩ := F.ex
  refine fn_of lk hcd S len fun A outer s H vs Q E hr hsp => ?_
  obtain ⟨t, h, q⟩ := hbody A outer s H vs Q E hr hsp
  exact ⟨t, h.nox, q⟩
theorem fn_mkC {α : Type} {enc : α → List E} {pre : α → Prop} {res : α → E} {x qual : Str} {st : Stmt} {f c : Addr} {fd : FuncData} {N ps : List Str} {k : Nat} (F : FunC K x qual st f fd c) (S : FnScope N ps (defScope st)) (hl : ∀ a, (enc a).length = ps.length)
    (body : ∀ (A : Around) (outer : List Env) (s : Shared) (H : Hp) (E : XK), Room k (A.deeper (PyProof.Rows.envOfC qual (defScope st) s.heap.objs.size f (.ref c))) → ∀ a, pre a →
      ∃ z, Evb T (cxOf CX0 P w K mg base N qual (defScope st) f (.ref c) A outer s H E).nox (defBody st) (startD N (enc a)) z ∧ Ends' z (res a)) : FnOk P w K mg base CX0 (k + 1) f fd ps (spN K T enc pre res) := by
  refine F.ok S (fun vs H Q E h => ?_) fun A outer s H vs Q E hr h => ?_
  · obtain ⟨S, a, _, _, r, _⟩ := h
    rw [r.length]
    exact hl a
  · obtain ⟨S, a, sk, tb, r, hp, q⟩ := h
    obtain ⟨z, hb, he⟩ := body A outer s H E hr a hp
    refine ⟨_, pss_best _, hb S (L2.start N vs) H ⟨sk, tb, SD.start r⟩ _ ?_⟩
    cases z with
    | rt e =>
      have he : e = res a := he
      subst he
      exact fun v H' g _ _ r' => q v H' g r'
    | nx δ' =>
      have he : res a = .d .none := he
      rw [he] at q
      exact fun σ' H' g _ => q _ H' g Rp.non
    | bk δ => exact he.elim
    | ct δ => exact he.elim
end
def lamOf52 : Arguments × Scope := match defBody (top 52) with
  | [.Return (some (.Call _ _ [⟨_, .Lambda p _ sc _, _⟩] _)) _] => (p, sc)
  | _ => default
def lamPar52 : Arguments := lamOf52.1
def lamSc52 : Scope := lamOf52.2
theorem sc_rooms_of : FnScope ["house", "stay", "room"] ["house", "stay"] (defScope (top 51)) := ⟨rfl, rfl, rfl, by decide +kernel, rfl, by decide +kernel, by decide +kernel⟩
theorem sc_in_order : FnScope ["stays"] ["stays"] (defScope (top 52)) := ⟨rfl, rfl, rfl, by decide +kernel, rfl, by decide +kernel, by decide +kernel⟩
theorem sc_narrowed : FnScope ["choices", "number", "room"] ["choices", "number", "room"] (defScope (top 55)) := ⟨rfl, rfl, rfl, by decide +kernel, rfl, by decide +kernel, by decide +kernel⟩
theorem sc_least_by : FnScope ["rooms", "stays", "choices", "told", "many", "number", "some", "room", "one"] ["rooms", "stays", "choices", "told", "many"] (defScope (top 56)) := ⟨rfl, rfl, rfl, by decide +kernel, rfl, by decide +kernel, by decide +kernel⟩
theorem sc_chosen_by : FnScope ["house", "stays", "told", "choices", "stay", "some", "own", "room"] ["house", "stays", "told"] (defScope (top 57)) := ⟨rfl, rfl, rfl, by decide +kernel, rfl, by decide +kernel, by decide +kernel⟩
theorem sc_plan_with : FnScope ["house", "stays", "told", "choices", "free"] ["house", "stays", "told"] (defScope (top 58)) := ⟨rfl, rfl, rfl, by decide +kernel, rfl, by decide +kernel, by decide +kernel⟩
theorem sc_plan_by : FnScope ["house", "stays"] ["house", "stays"] (defScope (top 59)) := ⟨rfl, rfl, rfl, by decide +kernel, rfl, by decide +kernel, by decide +kernel⟩
theorem sc_lots_of : FnScope ["many", "found", "number", "lot"] ["many"] (defScope (top 60)) := ⟨rfl, rfl, rfl, by decide +kernel, rfl, by decide +kernel, by decide +kernel⟩
theorem sc_have_plan : FnScope ["house", "stays", "lot", "some", "choices", "number", "stay"] ["house", "stays", "lot"] (defScope (top 61)) := ⟨rfl, rfl, rfl, by decide +kernel, rfl, by decide +kernel, by decide +kernel⟩
theorem sc_need_both_plans : FnScope ["house", "stays"] ["house", "stays"] (defScope (top 62)) := ⟨rfl, rfl, rfl, by decide +kernel, rfl, by decide +kernel, by decide +kernel⟩
theorem sc_plan : FnScope ["house", "stays", "found", "lot"] ["house", "stays"] (defScope (top 64)) := ⟨rfl, rfl, rfl, by decide +kernel, rfl, by decide +kernel, by decide +kernel⟩
theorem sc_do_meet : FnScope ["one", "other"] ["one", "other"] (defScope (top 65)) := ⟨rfl, rfl, rfl, by decide +kernel, rfl, by decide +kernel, by decide +kernel⟩
theorem sc_is_plan_by : FnScope ["house", "stays", "thing", "rows", "place", "stay", "room", "one", "other", "own"] ["house", "stays", "thing"] (defScope (top 66)) := ⟨rfl, rfl, rfl, by decide +kernel, rfl, by decide +kernel, by decide +kernel⟩
theorem sc_shows_plan : FnScope ["house", "stays", "thing"] ["house", "stays", "thing"] (defScope (top 68)) := ⟨rfl, rfl, rfl, by decide +kernel, rfl, by decide +kernel, by decide +kernel⟩
theorem sc_are_rooms : FnScope ["house", "stays", "thing", "one"] ["house", "stays", "thing"] (defScope (top 69)) := ⟨rfl, rfl, rfl, by decide +kernel, rfl, by decide +kernel, by decide +kernel⟩
theorem sc_nearest : FnScope ["house", "stays", "told", "choices", "many", "stay"] ["house", "stays", "told"] (defScope (top 70)) := ⟨rfl, rfl, rfl, by decide +kernel, rfl, by decide +kernel, by decide +kernel⟩
section
variable (K : PySem.W.Frag) (T : Tbl)
abbrev sp_rooms_of : Sp := spN (α := List Int × Stay) K T (fun a => [.d (houseD a.1), .d (stayD a.2)]) (fun a => a.1.length ≤ 1000) (fun a => .d (.list ((roomsOf a.1 a.2).map .int)))
abbrev sp_narrowed : Sp := spN (α := List (List Int) × Nat × Int) K T (fun a => [.d (chD a.1), .d (.int (a.2.1 : Int)), .d (.int a.2.2)]) (fun a => a.2.1 < a.1.length ∧ a.1.length ≤ 1000) (fun a => .d (chD (narrowI a.1 a.2.1 a.2.2)))
abbrev sp_do_meet : Sp := spN (α := Stay × Stay) K T (fun a => [.d (stayD a.1), .d (stayD a.2)]) (fun _ => True) (fun a => .d (.bool (meetB a.1 a.2)))
end
section
variable {P : Program} {w : World} {K : PySem.W.Frag} {mg : Str → Option Value} {base : Heap} {T : Tbl} {f : Addr} {fd : FuncData}
theorem ok_rooms_of (F : Fun K "rooms_of" "rooms_of" (top 51) f fd) (B : Bn mg) (D1 : Dfn P w K mg base "may_sleep" 1 ["house", "stay", "room"] (sp_may_sleep K T)) : FnOk P w K mg base CX0 2 f fd ["house", "stay"] (sp_rooms_of K T) := by
  refine fn_mkN F sc_rooms_of (fun _ => rfl) fun cdv A outer s H E hr a hp => ⟨.rt (.d (.list ((roomsOf a.1 a.2).map .int))), ?_, rfl⟩
  refine evb_one (evs_ret (ev_is (ev_lc (js := [2]) [("room", 2)] (List.range a.1.length) (fun (i : Nat) => PyData.int (i : Int)) (fun (i : Nat) => decide (a.2.1 ≤ a.1.getD ((i : Int)).toNat 0)) (fun (i : Nat) => PyData.int (i : Int)) (nd_ok rfl) rfl (evi_r1' B (ev_lenT B (ev_n 0)) ?_ hp) ?_ fun x hx => ?_) ?_))
  · rw [List.length_map]
  · rw [List.length_range]
    exact Nat.le_trans hp (by decide)
  · rw [List.mem_range] at hx
    refine ⟨_, fun s H0 C' cl fp => ⟨evg_n 2 (nd_ok rfl), evts_one (evt_v ?_), fun _ => ev_n 2⟩⟩
    exact ev_callI D1 hr (a.1, a.2, (x : Int)) (eva_cons (ev_n 0) (eva_cons (ev_n 1) (eva_cons (ev_n 2) eva_nil))) ⟨by show (0 : Int) ≤ (x : Int); omega, by show (x : Int) < (a.1.length : Int); omega⟩ rfl
  · unfold roomsOf
    rw [List.filter_map, List.map_map]
    rfl
theorem ok_narrowed (F : Fun K "narrowed" "narrowed" (top 55) f fd) : FnOk P w K mg base CX0 1 f fd ["choices", "number", "room"] (sp_narrowed K T) := by
  refine fn_mkN F sc_narrowed (fun _ => rfl) fun cdv A outer s H E hr a hp => ⟨.rt (.d (chD (narrowI a.1 a.2.1 a.2.2))), ?_, rfl⟩
  refine evb_one (evs_ret (ev_is (ev_catL (ds := cutD (a.1.map fun l => .list (l.map .int)) none (some (a.2.1 : Int)) ++ [.list [.int a.2.2]]) (ds2 := cutD (a.1.map fun l => .list (l.map .int)) (some ((a.2.1 : Int) + 1)) none) (ev_catL (ev_slL (ev_n 0) evo_none (evo_some (ev_n 1))) (ev_lst (evd_cons (ev_lst (evd_cons (ev_n 2) evd_nil)) evd_nil)) ?_) (ev_slL (ev_n 0) (evo_some (ev_add (ev_n 1) ev_i)) evo_none) ?_) ?_))
  · rw [cutD_to _ _ (by rw [List.length_map]; exact Nat.le_of_lt hp.1)]
    simp
    omega
  · rw [cutD_to _ _ (by rw [List.length_map]; exact Nat.le_of_lt hp.1), cutD_from _ _ (by rw [List.length_map]; exact hp.1)]
    simp
    omega
  · rw [cutD_to _ _ (by rw [List.length_map]; exact Nat.le_of_lt hp.1), cutD_from _ _ (by rw [List.length_map]; exact hp.1)]
    unfold chD narrowI
    simp
theorem ok_do_meet (F : Fun K "do_meet" "do_meet" (top 65) f fd) : FnOk P w K mg base CX0 1 f fd ["one", "other"] (sp_do_meet K T) := by
  refine fn_mkN F sc_do_meet (fun _ => rfl) fun cdv A outer s H E hr a hp => ⟨.rt (.d (.bool (meetB a.1 a.2))), ?_, rfl⟩
  refine evb_one (evs_ret (ev_is (ev_and (u := decide (a.1.2.1 < a.2.2.1 + a.2.2.2)) (v := decide (a.2.2.1 < a.1.2.1 + a.1.2.2)) ?_ fun _ => ev_one ?_) rfl))
  · exact ev_lt (ev_ixT (ev_n 0) ev_i rfl) (ev_add (ev_ixT (ev_n 1) ev_i rfl) (ev_ixT (ev_n 1) ev_i rfl))
  · exact ev_lt (ev_ixT (ev_n 1) ev_i rfl) (ev_add (ev_ixT (ev_n 0) ev_i rfl) (ev_ixT (ev_n 0) ev_i rfl))
end
end N

namespace N
open PySem L2 LamX
section
variable {P : Program} {w : World} {K : PySem.W.Frag} {mg : Str → Option Value} {base : Heap} {T : Tbl} {f : Addr} {fd : FuncData}
theorem bind_num (q : Str) (body : Expr) (cl : List (Str × Addr)) (pm cv ctv v : Value) : bindArgs (PySem.W.kla_fn "<lambda>" q lamPar52 body lamSc52 cl pm cv ctv) ⟨[v], []⟩ = pure [(("number" : Str), v)] := by kernel_rfl
theorem ok_in_order {c Pt : Addr} (F : FunC K "in_order" "in_order" (top 52) f fd c) (B : Bn mg) (L : LmOk base mg T c Pt (("in_order" : Str) ++ (".<locals>." : Str) ++ ("<lambda>" : Str))) : FnOk P w K mg base CX0 4 f fd ["stays"] (sp_in_order K T) := by
  refine fn_mkC F sc_in_order (fun _ => rfl) fun A outer s H E hr a hp => ⟨.rt (.d (.list ((inOrder a.2).map fun (n : Nat) => PyData.int (n : Int)))), ?_, rfl⟩
  refine evb_one (evs_ret ?_)
  refine ev_inOrder (bq := a.1) 0 B (hr.mono (by decide)) ?_ ?_ hp ?_ ?_ ?_ ?_ ?_ L.tb ?_ ?_ ?_ ?_ ?_
  · rfl
  · rfl
  · rfl
  · rfl
  · rfl
  · rfl
  · rfl
  · rfl
  · exact L.mem
  · exact L.uq
  · rfl
  · exact bind_num
end
end N

namespace N
open PySem L2 LamX
theorem pairsD_zip {α β : Type} (f : α → PyData) (g : β → PyData) : ∀ (as : List α) (bs : List β), pairsD (as.map f) (bs.map g) = (as.zip bs).map fun p => .tuple [f p.1, g p.2]
  | [], _ => by simp [pairsD]
  | _ :: _, [] => by simp [pairsD]
  | a :: as, b :: bs => by simp [pairsD, pairsD_zip f g as bs]
theorem zip_map_eq {α β γ δ' : Type} {g : α → γ} {G : α → β → δ'} {Hf : δ' → PyData} : ∀ {st : List α} {told : List β} {F : γ × β → PyData}, (∀ s o, F (g s, o) = Hf (G s o)) → ((st.map g).zip told).map F = (List.zipWith G st told).map Hf
  | [], _, _, _ => by simp
  | _ :: _, [], _, _ => by simp
  | s :: st, o :: told, F, h => by simp [h, zip_map_eq (st := st) (told := told) h]
theorem evi_zsM {T : Tbl} {X : Cx} {δ : Sl} {a b : Expr} {α β : Type} {f : α → PyData} {g : β → PyData} {as : List α} {bs : List β} {p kpos cpos pos tpos : Pos} {elts : List Expr} {kk j : Nat} (B : Bn X.mg) (h1 : Ev T X a δ (.d (.list (as.map f)))) (h2 : Ev T X b δ (.d (.tuple (bs.map g)))) (hl : as.length = bs.length) (hg : Gl X "zip" := by rfl)
    (hs : starEach [a, b] X.env = (false, eval a X.env) :: starEach [b] X.env := by rfl) (hs2 : starEach [b] X.env = (false, eval b X.env) :: starEach [] X.env := by rfl) :
    Evi T X (.Tuple elts kk tpos) (.Call (.Name "zip" p) [a, b] [⟨some "strict", .Constant (.bool true) j cpos, kpos⟩] pos) δ ((as.zip bs).map fun p => .tuple [f p.1, g p.2]) := by
  rw [← pairsD_zip]
  exact evi_zsLT B h1 h2 (by rw [List.length_map, List.length_map]; exact hl) hg hs hs2
theorem optD_shaped (o : Option Int) : SeqAt.shaped (optD o) = true := by cases o <;> simp [optD, SeqAt.shaped, PyData.canLay0, PyData.depth]
theorem int_shaped (o : Int) : SeqAt.shaped (.int o) = true := by simp [SeqAt.shaped, PyData.canLay0, PyData.depth]
theorem optD_eqv (o : Option Int) (m : Int) : PyData.eqv (optD o) (.int m) = decide (o = some m) := by
  cases o with
  | none => simp [optD, PyData.eqv]
  | some i =>
    show (i == m) = _
    rw [Bool.eq_iff_iff]
    simp
theorem roomsOf_ok {h : List Int} (s : Stay) : (roomsOf h s).length ≤ h.length ∧ ∀ r ∈ roomsOf h s, 0 ≤ r ∧ r < (h.length : Int) := by
  unfold roomsOf
  refine ⟨Nat.le_trans (List.length_filter_le _ _) (by simp), fun r hr => ?_⟩
  obtain ⟨i, hi, rfl⟩ := List.mem_map.mp (List.mem_filter.mp hr).1
  rw [List.mem_range] at hi
  omega
theorem chosen_ok {h : List Int} {st : List Stay} {told : List (Option Int)} (h5 : h.length ≤ 5) (hl : told.length = st.length) : (chosenL h st told).length = st.length ∧ ∀ l ∈ chosenL h st told, l.length ≤ 5 ∧ ∀ r ∈ l, 0 ≤ r ∧ r < (h.length : Int) := by
  unfold chosenL
  refine ⟨by rw [List.length_zipWith]; omega, fun l hl => ?_⟩
  obtain ⟨i, hi⟩ := List.mem_iff_getElem?.mp hl
  rw [List.getElem?_zipWith] at hi
  split at hi
  · rename_i s o _ _
    cases hi
    have := roomsOf_ok (h := h) s
    refine ⟨Nat.le_trans (List.length_filter_le _ _) (by omega), fun r hr => this.2 r (List.mem_filter.mp hr).1⟩
  · cases hi
theorem free_ok {h : List Int} {st : List Stay} (h5 : h.length ≤ 5) : (freeL h st).length = st.length ∧ ∀ l ∈ freeL h st, l.length ≤ 5 ∧ ∀ r ∈ l, 0 ≤ r ∧ r < (h.length : Int) := by
  unfold freeL
  refine ⟨by rw [List.length_map], fun l hl => ?_⟩
  obtain ⟨s, _, rfl⟩ := List.mem_map.mp hl
  have := roomsOf_ok (h := h) s
  exact ⟨by omega, this.2⟩
theorem narrow_ok {ch : List (List Int)} {n : Nat} {r : Int} {b : Int} (hn : n < ch.length) (hr : r ∈ ch.getD n []) (h : ∀ l ∈ ch, l.length ≤ 5 ∧ ∀ r ∈ l, 0 ≤ r ∧ r < b) : (narrowI ch n r).length = ch.length ∧ ∀ l ∈ narrowI ch n r, l.length ≤ 5 ∧ ∀ r ∈ l, 0 ≤ r ∧ r < b := by
  have hm : ch.getD n [] ∈ ch := by
    rw [List.getD_eq_getElem?_getD, List.getElem?_eq_getElem hn]
    exact List.getElem_mem _
  unfold narrowI
  refine ⟨by simp; omega, fun l hl => ?_⟩
  rcases List.mem_append.mp hl with q | q
  · rcases List.mem_append.mp q with q | q
    · exact h l (List.mem_of_mem_take q)
    · rw [List.mem_singleton.mp q]
      refine ⟨by simp, fun r' hr' => ?_⟩
      rw [List.mem_singleton.mp hr']
      exact (h _ hm).2 r hr
  · exact h l (List.mem_of_mem_drop q)
abbrev LArg := Int × List Stay × List (List Int) × List (Option Int) × Int × List Int
section
variable (K : PySem.W.Frag) (T : Tbl)
abbrev sp_least : Sp := spN (α := LArg) K T (fun a => [.d (.int a.1), .d (staysD a.2.1), .d (chD a.2.2.1), .d (toldD a.2.2.2.1), .d (.int a.2.2.2.2.1)]) (fun a => MPre (a.1, false, a.2.1, a.2.2.1, a.2.2.2.1) ∧ leastO a.1.toNat a.2.1 a.2.2.1 a.2.2.2.1 a.2.2.2.2.1 = some a.2.2.2.2.2) (fun a => .d (intsD a.2.2.2.2.2))
abbrev sp_chosen : Sp := spN (α := List Int × List Stay × List (Option Int)) K T (fun a => [.d (houseD a.1), .d (staysD a.2.1), .d (toldD a.2.2)]) (fun a => a.1.length ≤ 5 ∧ a.2.1.length ≤ 8 ∧ a.2.2.length = a.2.1.length) (fun a => .d (chD (chosenL a.1 a.2.1 a.2.2)))
end
section
variable {P : Program} {w : World} {K : PySem.W.Frag} {mg : Str → Option Value} {base : Heap} {T : Tbl} {f : Addr} {fd : FuncData}
theorem ok_chosen (F : Fun K "chosen_by" "chosen_by" (top 57) f fd) (B : Bn mg) (D1 : Dfn P w K mg base "rooms_of" 2 ["house", "stay"] (sp_rooms_of K T)) : FnOk P w K mg base CX0 3 f fd ["house", "stays", "told"] (sp_chosen K T) := by
  refine fn_mkN F sc_chosen_by (fun _ => rfl) fun cdv A outer s H E hr a hp => ⟨.rt (.d (chD (chosenL a.1 a.2.1 a.2.2))), ?_, rfl⟩
  obtain ⟨h, st, told⟩ := a
  obtain ⟨hp1, hp2, hp3⟩ := hp
  dsimp only at hp1 hp2 hp3 ⊢
  refine evb_cons (evs_lcM (js := [4]) 3 [("stay", 4)] st stayD (fun s => .list ((roomsOf h s).map .int)) (nd_ok rfl) rfl (evi_tup (ev_n 1)) (Nat.le_trans hp2 (by decide)) (fun x _ => ?_) (sw_true rfl rfl rfl (by decide +kernel))) ?_
  · refine ⟨_, fun s H0 C' cl fp => ⟨evg_n 4 (nd_ok rfl), evts_nil, fun _ => ?_⟩⟩
    exact ev_callI D1 hr (h, x) (eva_cons (ev_n 0) (eva_cons (ev_n 4) eva_nil)) (by show h.length ≤ 1000; omega) rfl
  · refine evb_one (evs_ret (ev_is (ev_lcM (js := [5, 6]) [("some", 5), ("own", 6)] ((freeL h st).zip told) (fun p => .tuple [.list (p.1.map .int), optD p.2]) (fun p => .list ((p.1.filter fun r => decide (p.2 = none) || decide (p.2 = some r)).map .int)) (nd_ok rfl) rfl ?_ ?_ fun x hx => ?_) ?_))
    · refine evi_zsM (f := fun (l : List Int) => PyData.list (l.map .int)) (g := optD) (as := freeL h st) (bs := told) B (ev_is (ev_n 3) ?_) (ev_n 2) ?_
      · unfold freeL
        rw [List.map_map]
        rfl
      · unfold freeL
        rw [List.length_map]
        exact hp3.symm
    · rw [List.length_zip]
      unfold freeL
      rw [List.length_map]
      omega
    · refine ⟨_, fun s H0 C' cl fp => ⟨evg_tup (evgs_cons (evg_n 5 (nd_ok rfl)) (evgs_cons (evg_n 6 (nd_ok rfl)) evgs_nil)), evts_nil, fun _ => ?_⟩⟩
      refine ev_lc (js := [7]) [("room", 7)] x.1 .int (fun r => decide (x.2 = none) || decide (x.2 = some r)) .int (nd_ok rfl) rfl (evi_list (ev_n 5)) ?_ fun r _ => ?_
      · have hm := (List.of_mem_zip hx).1
        have := (free_ok (st := st) hp1).2 x.1 hm
        omega
      · refine ⟨_, fun s H0 C' cl fp => ⟨evg_n 7 (nd_ok rfl), evts_one (evt_is (evt_or (u := decide (x.2 = none)) (v := decide (x.2 = some r)) (evt_is (evt_isN (ev_n 6)) ?_) fun hu => ?_) rfl), fun _ => ev_n 7⟩⟩
        · rw [isNo_opt]
          cases x.2 <;> simp
        · cases hx2 : x.2 with
          | none => rw [hx2] at hu; simp at hu
          | some o =>
            refine evt_is (evt_eq (j := o) (ev_n 7) (ev_is (ev_n 6) (by first | rfl | (rw [hx2]; rfl)))) ?_
            simp [eq_comm]
    · unfold chD chosenL freeL
      rw [zip_map_eq (G := fun s own => (roomsOf h s).filter fun r => decide (own = none) || decide (own = some r)) (Hf := fun l => .list (l.map .int)) (fun s o => rfl)]
theorem find_head {α : Type} (p : α → Bool) : ∀ (l : List α) (c : α), l.find? p = some c → ∃ r, l.filter p = c :: r
  | [], c, h => by simp at h
  | x :: l, c, h => by
    cases hp : p x with
    | true =>
      rw [List.find?_cons_of_pos hp] at h
      cases h
      exact ⟨_, List.filter_cons_of_pos hp⟩
    | false =>
      rw [List.find?_cons_of_neg (by rw [hp]; simp)] at h
      obtain ⟨r, e⟩ := find_head p l c h
      exact ⟨r, by rw [List.filter_cons_of_neg (by rw [hp]; simp)]; exact e⟩
theorem atI_zero {α : Type} {x : α} {xs : List α} : atI (x :: xs) 0 = some x := by
  rw [atI_nat (by decide) (by simp)]
  rfl
theorem narrow_len {ch : List (List Int)} {n : Nat} {r : Int} (hn : n < ch.length) : (narrowI ch n r).length = ch.length := by
  unfold narrowI
  simp
  omega
theorem leastGo_len {rooms : Nat} {st : List Stay} {told : List (Option Int)} {many : Int} : ∀ (ns : List Nat) (ch c : List (List Int)), (∀ n ∈ ns, n < ch.length) → leastGo rooms st told many ns ch = some c → c.length = ch.length
  | [], ch, c, _, h => by cases h; rfl
  | n :: ns, ch, c, hn, h => by
    unfold leastGo at h
    cases hf : ((ch.getD n []).map (narrowI ch n)).find? (fun one => decide (manyO rooms st one told = some many)) with
    | none => rw [hf] at h; cases h
    | some c1 =>
      rw [hf] at h
      dsimp only at h
      obtain ⟨r1, _, e1⟩ := List.mem_map.mp (List.mem_of_find?_eq_some hf)
      have hl := narrow_len (r := r1) (hn n List.mem_cons_self)
      rw [e1] at hl
      rw [leastGo_len ns c1 c (fun m hm => by rw [hl]; exact hn m (List.mem_cons_of_mem _ hm)) h, hl]
theorem ok_least (F : Fun K "least_by" "least_by" (top 56) f fd) (B : Bn mg) (D1 : Dfn P w K mg base "narrowed" 1 ["choices", "number", "room"] (sp_narrowed K T)) (D2 : Dfn P w K mg base "many_otherwise" 5 ["rooms", "stays", "choices", "told"] (sp_many K T)) : FnOk P w K mg base CX0 6 f fd ["rooms", "stays", "choices", "told", "many"] (sp_least K T) := by
  refine fn_mkN F sc_least_by (fun _ => rfl) fun cdv A outer s H E hr a hp => ⟨.rt (.d (intsD a.2.2.2.2.2)), ?_, rfl⟩
  obtain ⟨rooms, st, ch, told, many, res⟩ := a
  obtain ⟨hm, hl⟩ := hp
  dsimp only at hm hl ⊢
  have run : ∀ (ns : List Nat) (ch : List (List Int)) (c : List (List Int)) (x5 x6 x7 x8 : Option N.E), (∀ n ∈ ns, n < st.length) → MPre (rooms, false, st, ch, told) → leastGo rooms.toNat st told many ns ch = some c →
      ∃ δ', ForRun (Turn1 T (cxOf CX0 P w K mg base ["rooms", "stays", "choices", "told", "many", "number", "some", "room", "one"] "least_by" (defScope (top 56)) f cdv A outer s H E).nox (forTg 0 (top 56)) (forBd 0 (top 56))) (ns.map fun (i : Nat) => PyData.int (i : Int)) [some (.d (.int rooms)), some (.d (staysD st)), some (.d (chD ch)), some (.d (toldD told)), some (.d (.int many)), x5, x6, x7, x8] (.nx δ') ∧ δ'[2]? = some (some (.d (chD c))) ∧ δ'.length = 9 := by
    intro ns
    induction ns with
    | nil =>
      intro ch c x5 x6 x7 x8 _ _ hc
      cases hc
      exact ⟨_, .nil, rfl, rfl⟩
    | cons n ns ih =>
      intro ch c x5 x6 x7 x8 hns hm hc
      obtain ⟨m0, m5, m8, mc, mt, mr⟩ := hm
      dsimp only at m0 m5 m8 mc mt mr
      have hn : n < st.length := hns n List.mem_cons_self
      have hnc : n < ch.length := by omega
      have hcn : ch[n]? = some (ch.getD n []) := by
        rw [List.getD_eq_getElem?_getD, List.getElem?_eq_getElem hnc]
        rfl
      have hmem := List.mem_of_getElem? hcn
      unfold leastGo at hc
      cases hf : ((ch.getD n []).map (narrowI ch n)).find? (fun one => decide (manyO rooms.toNat st one told = some many)) with
      | none => rw [hf] at hc; cases hc
      | some c1 =>
        rw [hf] at hc
        dsimp only at hc
        obtain ⟨r1, hr1, e1⟩ := List.mem_map.mp (List.mem_of_find?_eq_some hf)
        have hno := narrow_ok (r := r1) (b := rooms) hnc hr1 mr
        rw [e1] at hno
        have hm1 : MPre (rooms, false, st, c1, told) := ⟨m0, m5, m8, by show c1.length = st.length; omega, mt, hno.2⟩
        obtain ⟨rst, hfil⟩ := find_head _ _ _ hf
        obtain ⟨δ', q1, q2⟩ := ih c1 c (some (.d (.int (n : Int)))) (some (.d (.list ((ch.getD n []).map fun r => chD (narrowI ch n r))))) x7 x8 (fun m hm => hns m (List.mem_cons_of_mem _ hm)) hm1 hc
        refine ⟨δ', .next ⟨_, _, evg_n 5 (nd_ok rfl), ?_⟩ q1, q2⟩
        refine evb_cons (evs_lcM (js := [7]) 6 [("room", 7)] (ch.getD n []) .int (fun r => chD (narrowI ch n r)) (nd_ok rfl) rfl (evi_list (ev_ixL (ds := ch.map fun l => .list (l.map .int)) (ev_n 2) (ev_n 5) ?_)) ?_ (fun r hr' => ?_) (sw_true rfl rfl rfl (by decide +kernel))) ?_
        · rw [atI_nat (by omega) (by rw [List.length_map]; omega), List.getElem?_map, show ((n : Int)).toNat = n by omega, hcn]
          rfl
        · have := (mr _ hmem).1
          omega
        · refine ⟨_, fun s H0 C' cl fp => ⟨evg_n 7 (nd_ok rfl), evts_nil, fun _ => ?_⟩⟩
          exact ev_callI D1 (hr.mono (by decide)) (ch, n, r) (eva_cons (ev_n 2) (eva_cons (ev_n 5) (eva_cons (ev_n 7) eva_nil))) ⟨hnc, by show ch.length ≤ 1000; omega⟩ rfl
        · refine evb_one (evs_set 2 (r := .d (chD c1)) (ev_ixL (ds := (((ch.getD n []).map (narrowI ch n)).filter fun one => decide (manyO rooms.toNat st one told = some many)).map chD) ?_ ev_i ?_) (nd_ok rfl))
          · refine ev_lc (js := [8]) [("one", 8)] ((ch.getD n []).map (narrowI ch n)) chD (fun one => decide (manyO rooms.toNat st one told = some many)) chD (nd_ok rfl) rfl (evi_list (ev_is (ev_n 6) ?_)) ?_ fun one hone => ?_
            · rw [List.map_map]
              rfl
            · rw [List.length_map]
              have := (mr _ hmem).1
              omega
            · obtain ⟨r2, hr2, e2⟩ := List.mem_map.mp hone
              have hno2 := narrow_ok (r := r2) (b := rooms) hnc hr2 mr
              rw [e2] at hno2
              refine ⟨_, fun s H0 C' cl fp => ⟨evg_n 8 (nd_ok rfl), evts_one (evt_is (evt_eqD hr.units (d1 := optD (manyO rooms.toNat st one told)) ?_ (ev_n 4) (optD_shaped _) (int_shaped _)) (optD_eqv _ _)), fun _ => ev_n 8⟩⟩
              exact ev_callI D2 hr (rooms, false, st, one, told) (eva_cons (ev_n 0) (eva_cons (ev_n 1) (eva_cons (ev_n 8) (eva_cons (ev_n 3) eva_nil)))) ⟨m0, m5, m8, by show one.length = st.length; omega, mt, hno2.2⟩ rfl
          · rw [hfil, List.map_cons]
            exact atI_zero
  unfold leastO at hl
  cases hg : leastGo rooms.toNat st told many (List.range st.length) ch with
  | none => rw [hg] at hl; cases hl
  | some c =>
    rw [hg] at hl
    dsimp only at hl
    split at hl
    · rename_i hall
      cases hl
      obtain ⟨δ', q1, q2⟩ := run (List.range st.length) ch c none none none none (fun n hn => List.mem_range.mp hn) hm hg
      have hst8 := hm.2.2.1
      dsimp only at hst8
      refine evb_cons (evs_for (evi_r1' (n := st.length) B (ev_lenT (ds := st.map stayD) B (ev_n 1)) (by rw [List.length_map]) (by omega)) q1) (evb_one (evs_ret ?_))
      refine ev_is (ev_tupL (ds := c.map fun l => .int (l.headD 0)) B (ev_lcM (js := [6]) [("some", 6)] c (fun l => .list (l.map .int)) (fun l => .int (l.headD 0)) (nd_ok rfl) rfl (evi_list (ev_n 2 (h := q2.1))) ?_ fun l hl => ?_)) ?_
      · rw [leastGo_len _ _ _ (fun n hn => by rw [List.mem_range] at hn; have := hm.2.2.2.1; dsimp only at this; omega) hg]
        have := hm.2.2.2.1
        dsimp only at this
        omega
      · refine ⟨_, fun s H0 C' cl fp => ⟨evg_n 6 (nd_ok rfl), evts_nil, fun _ => ?_⟩⟩
        have hne := List.all_eq_true.mp hall l hl
        cases l with
        | nil => simp at hne
        | cons x r =>
          refine ev_ixL (ds := .int x :: r.map .int) (ev_n 6 (h := ?_)) ev_i atI_zero
          show ((wipeD δ' [6]).set 6 _)[6]? = _
          rw [List.getElem?_set_self (by show 6 < (List.set δ' 6 none).length; rw [List.length_set, q2.2]; decide)]
          rfl
      · unfold intsD
        rw [List.map_map]
        rfl
    · cases hl
end
end N

namespace N
open PySem L2 LamX
def planD (h : List Int) (st : List Stay) : PyData := match planWith h st (nones st.length) with
  | some l => .tuple [.str "plan", intsD l]
  | none => .tuple [.str "none", lotD (((lotsOf st.length).find? fun lot => !haveB h st lot).getD [])]
def nearO (h : List Int) (st : List Stay) (told : List (Option Int)) : Option (Int × List Int) := match manyO h.length st (freeL h st) told with
  | none => none
  | some m => some (m, (leastO h.length st (freeL h st) told m).getD [])
def nearD (o : Option (Int × List Int)) : PyData := match o with
  | none => .none
  | some p => .tuple [.int p.1, intsD p.2]
/-- what least_by leans on -/
def LeastOk (rooms : Nat) (st : List Stay) (ch : List (List Int)) (told : List (Option Int)) : Prop := ∀ m, manyO rooms st ch told = some m → ∃ r, leastO rooms st ch told m = some r
/-- many is 0 where nothing is told -/
def PlanOk (h : List Int) (st : List Stay) (told : List (Option Int)) : Prop := ∀ m, manyO h.length st (chosenL h st told) (nones st.length) = some m → ∃ r, leastO h.length st (chosenL h st told) (nones st.length) 0 = some r
def RoomsIn (h : List Int) (st : List Stay) (told : List (Option Int)) : Prop := told.length = st.length ∧ ∀ r, some r ∈ told → 0 ≤ r ∧ r < (h.length : Int)
/-- a plan that shows it -/
structure Shows (h : List Int) (st : List Stay) (l : List Int) : Prop where
  len : l.length = st.length
  rng : ∀ r ∈ l, 0 ≤ r ∧ r < (h.length : Int)
  may : ∀ p ∈ st.zip l, p.1.1 ≤ h.getD p.2.toNat 0
  apart : ∀ i j, i < j → j < st.length → l.getD i 0 = l.getD j 0 → meetB (st.getD j (0, 0, 0)) (st.getD i (0, 0, 0)) = false
theorem nones_len (n : Nat) : (nones n).length = n := List.length_replicate ..
theorem nones_D (n : Nat) : (nones n).map optD = List.replicate n PyData.none := by unfold nones; rw [List.map_replicate]; rfl
section
variable (K : PySem.W.Frag) (T : Tbl)
abbrev sp_plan_with : Sp := spN (α := List Int × List Stay × List (Option Int)) K T (fun a => [.d (houseD a.1), .d (staysD a.2.1), .d (toldD a.2.2)]) (fun a => a.1.length ≤ 5 ∧ a.2.1.length ≤ 8 ∧ a.2.2.length = a.2.1.length ∧ PlanOk a.1 a.2.1 a.2.2) (fun a => .d (optL (planWith a.1 a.2.1 a.2.2)))
abbrev sp_plan_by : Sp := spN (α := List Int × List Stay) K T (fun a => [.d (houseD a.1), .d (staysD a.2)]) (fun a => a.1.length ≤ 5 ∧ a.2.length ≤ 8 ∧ PlanOk a.1 a.2 (nones a.2.length)) (fun a => .d (optL (planWith a.1 a.2 (nones a.2.length))))
abbrev sp_lots : Sp := spN (α := Nat) K T (fun a => [.d (.int (a : Int))]) (fun a => a ≤ 8) (fun a => .d (.list ((lotsOf a).map lotD)))
abbrev sp_have : Sp := spN (α := List Int × List Stay × List Int) K T (fun a => [.d (houseD a.1), .d (staysD a.2.1), .d (lotD a.2.2)]) (fun a => a.1.length ≤ 5 ∧ a.2.1.length ≤ 8 ∧ a.2.2.length ≤ 8 ∧ ∀ i ∈ a.2.2, 0 ≤ i ∧ i < (a.2.1.length : Int)) (fun a => .d (.bool (haveB a.1 a.2.1 a.2.2)))
abbrev sp_plan : Sp := spN (α := List Int × List Stay) K T (fun a => [.d (houseD a.1), .d (staysD a.2)]) (fun a => HouseOk a.1 ∧ StB a.2 8 ∧ PlanOk a.1 a.2 (nones a.2.length) ∧ (planWith a.1 a.2 (nones a.2.length) = none → ∃ lot, (lotsOf a.2.length).find? (fun lot => !haveB a.1 a.2 lot) = some lot)) (fun a => .d (planD a.1 a.2))
abbrev sp_shows_by : Sp := spN (α := List Int × List Stay × List Int) K T (fun a => [.d (houseD a.1), .d (staysD a.2.1), .d (intsD a.2.2)]) (fun a => a.1.length ≤ 5 ∧ a.2.1.length ≤ 8 ∧ Shows a.1 a.2.1 a.2.2) (fun a => .d (.bool true))
abbrev sp_shows : Sp := spN (α := List Int × List Stay × List Int) K T (fun a => [.d (houseD a.1), .d (staysD a.2.1), .d (.tuple [.str "plan", intsD a.2.2])]) (fun a => HouseOk a.1 ∧ StB a.2.1 8 ∧ Shows a.1 a.2.1 a.2.2) (fun a => .d (.bool true))
abbrev sp_are_rooms : Sp := spN (α := List Int × List Stay × List (Option Int)) K T (fun a => [.d (houseD a.1), .d (staysD a.2.1), .d (toldD a.2.2)]) (fun a => a.2.1.length ≤ 8 ∧ RoomsIn a.1 a.2.1 a.2.2) (fun a => .d (.bool true))
abbrev sp_nearest : Sp := spN (α := List Int × List Stay × List (Option Int)) K T (fun a => [.d (houseD a.1), .d (staysD a.2.1), .d (toldD a.2.2)]) (fun a => HouseOk a.1 ∧ StB a.2.1 8 ∧ RoomsIn a.1 a.2.1 a.2.2 ∧ LeastOk a.1.length a.2.1 (freeL a.1 a.2.1) a.2.2) (fun a => .d (nearD (nearO a.1 a.2.1 a.2.2)))
end
section
variable {P : Program} {w : World} {K : PySem.W.Frag} {mg : Str → Option Value} {base : Heap} {T : Tbl} {f : Addr} {fd : FuncData}
theorem ok_plan_with (F : Fun K "plan_with" "plan_with" (top 58) f fd) (B : Bn mg) (D1 : Dfn P w K mg base "chosen_by" 3 ["house", "stays", "told"] (sp_chosen K T)) (D2 : Dfn P w K mg base "many_otherwise" 5 ["rooms", "stays", "choices", "told"] (sp_many K T)) (D3 : Dfn P w K mg base "least_by" 6 ["rooms", "stays", "choices", "told", "many"] (sp_least K T)) : FnOk P w K mg base CX0 7 f fd ["house", "stays", "told"] (sp_plan_with K T) := by
  refine fn_mkN F sc_plan_with (fun _ => rfl) fun cdv A outer s H E hr a hp => ⟨.rt (.d (optL (planWith a.1 a.2.1 a.2.2))), ?_, rfl⟩
  obtain ⟨h, st, told⟩ := a
  obtain ⟨h5, h8, hl, hok⟩ := hp
  dsimp only at h5 h8 hl hok ⊢
  have hco := chosen_ok (h := h) (st := st) (told := told) h5 hl
  have hm : MPre ((h.length : Int), false, st, chosenL h st told, nones st.length) := ⟨by show (0 : Int) ≤ (h.length : Int); omega, by show (h.length : Int) ≤ 5; omega, h8, hco.1, nones_len _, hco.2⟩
  refine evb_cons (evs_par 3 4 (r := .d (chD (chosenL h st told))) (r2 := .d (toldD (nones st.length))) ?_ ?_ (nd_ok rfl)) ?_
  · exact ev_callI D1 (hr.mono (by decide)) (h, st, told) (eva_cons (ev_n 0) (eva_cons (ev_n 1) (eva_cons (ev_n 2) eva_nil))) ⟨h5, h8, hl⟩ rfl
  · refine ev_is (ev_rep1 (d := .none) (ev_tup (evd_cons ev_0 evd_nil)) (ev_lenT (ds := st.map stayD) B (ev_n 1)) (by rw [List.length_map]; omega)) ?_
    rw [List.length_map]
    unfold toldD
    rw [nones_D]
    rfl
  cases hmo : manyO h.length st (chosenL h st told) (nones st.length) with
  | none =>
    have e : planWith h st told = none := by unfold planWith; rw [hmo]
    rw [e]
    refine evb_out (evs_if (u := true) (evt_is (evt_isN (e := .d (optD none)) ?_) rfl) (fun _ => evb_one (evs_ret ev_0)) (fun z => by cases z)) rfl
    exact ev_callI D2 (hr.mono (by decide)) ((h.length : Int), false, st, chosenL h st told, nones st.length) (eva_cons (ev_is (ev_lenT (ds := h.map .int) B (ev_n 0)) (by rw [List.length_map])) (eva_cons (ev_n 1) (eva_cons (ev_n 3) (eva_cons (ev_n 4) eva_nil)))) hm (by show N.E.d (optD (manyO ((h.length : Int)).toNat st _ _)) = _; rw [Int.toNat_natCast, hmo])
  | some m =>
    obtain ⟨r, hlr⟩ := hok m hmo
    have e : planWith h st told = some r := by unfold planWith; rw [hmo]; exact hlr
    rw [e]
    refine evb_cons (evs_if (u := false) (evt_is (evt_isN (e := .d (optD (some m))) ?_) rfl) (fun z => by cases z) (fun _ => evb_nil)) (evb_one (evs_ret ?_))
    · exact ev_callI D2 (hr.mono (by decide)) ((h.length : Int), false, st, chosenL h st told, nones st.length) (eva_cons (ev_is (ev_lenT (ds := h.map .int) B (ev_n 0)) (by rw [List.length_map])) (eva_cons (ev_n 1) (eva_cons (ev_n 3) (eva_cons (ev_n 4) eva_nil)))) hm (by show N.E.d (optD (manyO ((h.length : Int)).toNat st _ _)) = _; rw [Int.toNat_natCast, hmo])
    · exact ev_callI D3 hr ((h.length : Int), st, chosenL h st told, nones st.length, 0, r) (eva_cons (ev_is (ev_lenT (ds := h.map .int) B (ev_n 0)) (by rw [List.length_map])) (eva_cons (ev_n 1) (eva_cons (ev_n 3) (eva_cons (ev_n 4) (eva_cons ev_i eva_nil))))) ⟨hm, by show leastO ((h.length : Int)).toNat st _ _ 0 = some r; rw [Int.toNat_natCast]; exact hlr⟩ rfl
theorem ok_plan_by (F : Fun K "plan_by" "plan_by" (top 59) f fd) (B : Bn mg) (D1 : Dfn P w K mg base "plan_with" 7 ["house", "stays", "told"] (sp_plan_with K T)) : FnOk P w K mg base CX0 8 f fd ["house", "stays"] (sp_plan_by K T) := by
  refine fn_mkN F sc_plan_by (fun _ => rfl) fun cdv A outer s H E hr a hp => ⟨.rt (.d (optL (planWith a.1 a.2 (nones a.2.length)))), ?_, rfl⟩
  refine evb_one (evs_ret ?_)
  refine ev_callI D1 hr (a.1, a.2, nones a.2.length) (eva_cons (ev_n 0) (eva_cons (ev_n 1) (eva_cons (r := .d (toldD (nones a.2.length))) ?_ eva_nil))) ⟨hp.1, hp.2.1, nones_len _, hp.2.2⟩ rfl
  refine ev_is (ev_rep1 (d := .none) (ev_tup (evd_cons ev_0 evd_nil)) (ev_lenT (ds := a.2.map stayD) B (ev_n 1)) (by have := hp.2.1; rw [List.length_map]; omega)) ?_
  rw [List.length_map]
  unfold toldD
  rw [nones_D]
  rfl
theorem lotsGo_succ (n : Nat) : lotsGo (n + 1) = lotsGo n ++ (lotsGo n).map (· ++ [(n : Int)]) := by
  unfold lotsGo
  rw [List.range_succ, List.foldl_append]
  rfl
theorem lotsGo_len : ∀ n, (lotsGo n).length = 2 ^ n
  | 0 => rfl
  | n + 1 => by
    rw [lotsGo_succ, List.length_append, List.length_map, lotsGo_len n, Nat.pow_succ]
    omega
theorem lotsGo_mem : ∀ n lot, lot ∈ lotsGo n → lot.length ≤ n ∧ ∀ i ∈ lot, 0 ≤ i ∧ i < (n : Int)
  | 0, lot, h => by
    have e : lot = [] := by simpa [lotsGo] using h
    subst e
    exact ⟨Nat.le_refl _, fun i hi => by simp at hi⟩
  | n + 1, lot, h => by
    rw [lotsGo_succ] at h
    rcases List.mem_append.mp h with q | q
    · have := lotsGo_mem n lot q
      exact ⟨by omega, fun i hi => by have := this.2 i hi; omega⟩
    · obtain ⟨l, hl, rfl⟩ := List.mem_map.mp q
      have := lotsGo_mem n l hl
      refine ⟨by simp; omega, fun i hi => ?_⟩
      rcases List.mem_append.mp hi with z | z
      · have := this.2 i z; omega
      · rw [List.mem_singleton.mp z]; omega
def lamOf60 : Arguments × Scope := match defBody (top 60) with
  | [_, _, .Return (some (.Call _ _ [⟨_, .Lambda p _ sc _, _⟩] _)) _] => (p, sc)
  | _ => default
def lamPar60 : Arguments := lamOf60.1
def lamSc60 : Scope := lamOf60.2
theorem bind_lot (q : Str) (body : Expr) (cl : List (Str × Addr)) (pm cv ctv v : Value) : bindArgs (PySem.W.kla_fn "<lambda>" q lamPar60 body lamSc60 cl pm cv ctv) ⟨[v], []⟩ = pure [(("lot" : Str), v)] := by kernel_rfl
theorem ok_lots {c Pt : Addr} (F : FunC K "lots_of" "lots_of" (top 60) f fd c) (B : Bn mg) (L : LmOk base mg T c Pt (("lots_of" : Str) ++ (".<locals>." : Str) ++ ("<lambda>" : Str))) : FnOk P w K mg base CX0 5 f fd ["many"] (sp_lots K T) := by
  refine fn_mkC F sc_lots_of (fun _ => rfl) fun A outer s H E hr a hp => ⟨.rt (.d (.list ((lotsOf a).map lotD))), ?_, rfl⟩
  have run : ∀ (k n : Nat) (δ2 δ3 : Option N.E), n + k = a → ∃ δ', ForRun (Turn1 T (cxOf CX0 P w K mg base ["many", "found", "number", "lot"] "lots_of" (defScope (top 60)) f (.ref c) A outer s H E).nox (forTg 1 (top 60)) (forBd 1 (top 60))) ((List.range' n k).map fun (i : Nat) => PyData.int (i : Int)) [some (.d (.int (a : Int))), some (.d (.list ((lotsGo n).map lotD))), δ2, δ3] (.nx δ') ∧ δ'[1]? = some (some (.d (.list ((lotsGo a).map lotD)))) := by
    intro k
    induction k with
    | zero =>
      intro n δ2 δ3 e
      have : n = a := by omega
      subst this
      exact ⟨_, .nil, rfl⟩
    | succ k ih =>
      intro n δ2 δ3 e
      obtain ⟨δ', q1, q2⟩ := ih (n + 1) (some (.d (.int (n : Int)))) δ3 (by omega)
      have hln : (lotsGo n).length ≤ 256 := by
        rw [lotsGo_len]
        exact Nat.pow_le_pow_right (by decide) (by omega : n ≤ 8)
      refine ⟨δ', .next ⟨_, _, evg_n 2 (nd_ok rfl), ?_⟩ q1, q2⟩
      refine evb_one (evs_set 1 (ev_is (ev_catL (ds := (lotsGo n).map lotD) (ds2 := (lotsGo n).map fun l => lotD (l ++ [(n : Int)])) (ev_n 1) ?_ ?_) ?_) (nd_ok rfl))
      · refine ev_lcM (js := [3]) [("lot", 3)] (lotsGo n) lotD (fun l => lotD (l ++ [(n : Int)])) (nd_ok rfl) rfl (evi_list (ev_n 1)) (by omega) fun l hl => ?_
        refine ⟨_, fun s H0 C' cl fp => ⟨evg_n 3 (nd_ok rfl), evts_nil, fun _ => ev_is (ev_catT (ds := l.map .int) (ds2 := [.int (n : Int)]) (ev_n 3) (ev_tup (evd_cons (ev_n 2) evd_nil)) ?_) ?_⟩⟩
        · have := (lotsGo_mem n l hl).1
          rw [List.length_map]
          simp
          omega
        · unfold lotD
          rw [List.map_append]
          rfl
      · rw [List.length_map, List.length_map]
        omega
      · rw [lotsGo_succ, List.map_append, List.map_map]
        rfl
  obtain ⟨δ', q1, q2⟩ := run a 0 none none (by omega)
  rw [← List.range_eq_range'] at q1
  refine evb_cons (evs_set 1 (r := .d (.list ((lotsGo 0).map lotD))) (ev_lst (ds := [.tuple []]) (evd_cons (ev_tup evd_nil) evd_nil)) (nd_ok rfl)) (evb_cons (evs_for (evi_r1' (n := a) B (ev_n 0) rfl (by omega)) q1) (evb_one (evs_ret ?_)))
  refine ev_sortLots (ls := lotsGo a) ?_ B (hr.mono (by decide)) ?_ ?_ ?_ ?_ ?_ ?_ L.tb ?_ ?_ ?_ ?_ ?_
  · exact ev_n 1 (h := q2)
  · rw [lotsGo_len]
    exact Nat.le_trans (Nat.pow_le_pow_right (by decide) hp) (by decide)
  · intro l hl
    have := (lotsGo_mem a l hl).1
    omega
  · rfl
  · rfl
  · rfl
  · rfl
  · rfl
  · exact L.mem
  · exact L.uq
  · rfl
  · exact bind_lot
theorem ok_have (F : Fun K "have_plan" "have_plan" (top 61) f fd) (B : Bn mg) (D1 : Dfn P w K mg base "rooms_of" 2 ["house", "stay"] (sp_rooms_of K T)) (D2 : Dfn P w K mg base "many_otherwise" 5 ["rooms", "stays", "choices", "told"] (sp_many K T)) : FnOk P w K mg base CX0 6 f fd ["house", "stays", "lot"] (sp_have K T) := by
  refine fn_mkN F sc_have_plan (fun _ => rfl) fun cdv A outer s H E hr a hp => ⟨.rt (.d (.bool (haveB a.1 a.2.1 a.2.2))), ?_, rfl⟩
  obtain ⟨h, st, lot⟩ := a
  obtain ⟨h5, h8, hl8, hix⟩ := hp
  dsimp only at h5 h8 hl8 hix ⊢
  have hls : (lotStays st lot).length = lot.length := by unfold lotStays; rw [List.length_map]
  have hfo := free_ok (h := h) (st := lotStays st lot) h5
  refine evb_cons (evs_lcM (js := [5]) 3 [("number", 5)] lot .int (fun i => stayD (st.getD i.toNat (0, 0, 0))) (nd_ok rfl) rfl (evi_tup (ev_n 2)) (by omega) (fun i hi => ?_) (sw_true rfl rfl rfl (by decide +kernel))) (evb_cons (evs_lcM (js := [6]) 4 [("stay", 6)] (lotStays st lot) stayD (fun s => .list ((roomsOf h s).map .int)) (nd_ok rfl) rfl (evi_list (ev_is (ev_n 3) ?_)) (by omega) (fun x hx => ?_) (sw_true rfl rfl rfl (by decide +kernel))) (evb_one (evs_ret (ev_is (ev_notN (e := .d (optD (manyO h.length (lotStays st lot) (freeL h (lotStays st lot)) (nones lot.length)))) ?_) ?_))))
  · have hi2 := hix i hi
    refine ⟨_, fun s H0 C' cl fp => ⟨evg_n 5 (nd_ok rfl), evts_nil, fun _ => ev_ixT (ds := st.map stayD) (ev_n 1) (ev_n 5) ?_⟩⟩
    rw [atI_nat hi2.1 (by rw [List.length_map]; exact hi2.2), List.getElem?_map, List.getD_eq_getElem?_getD, List.getElem?_eq_getElem (by omega)]
    rfl
  · unfold lotStays
    rw [List.map_map]
    rfl
  · refine ⟨_, fun s H0 C' cl fp => ⟨evg_n 6 (nd_ok rfl), evts_nil, fun _ => ?_⟩⟩
    exact ev_callI D1 (hr.mono (by decide)) (h, x) (eva_cons (ev_n 0) (eva_cons (ev_n 6) eva_nil)) (by show h.length ≤ 1000; omega) rfl
  · refine ev_callI D2 hr ((h.length : Int), true, lotStays st lot, freeL h (lotStays st lot), nones lot.length) (eva_cons (ev_is (ev_lenT (ds := h.map .int) B (ev_n 0)) (by rw [List.length_map])) (eva_cons (r := .d (staysB true (lotStays st lot))) (ev_is (ev_n 3) ?_) (eva_cons (r := .d (chD (freeL h (lotStays st lot)))) (ev_is (ev_n 4) ?_) (eva_cons (r := .d (toldD (nones lot.length))) (ev_is (ev_rep1 (d := .none) (ev_tup (evd_cons ev_0 evd_nil)) (ev_lenL (ds := lot.map fun i => stayD (st.getD i.toNat (0, 0, 0))) B (ev_n 3)) (by rw [List.length_map]; omega)) ?_) eva_nil)))) ⟨by show (0 : Int) ≤ (h.length : Int); omega, by show (h.length : Int) ≤ 5; omega, by show (lotStays st lot).length ≤ 8; omega, hfo.1, by show (nones lot.length).length = _; rw [nones_len, hls], hfo.2⟩ (by show N.E.d (optD (manyO ((h.length : Int)).toNat _ _ _)) = _; rw [Int.toNat_natCast])
    · show N.E.d (PyData.list _) = N.E.d (PyData.list ((lotStays st lot).map stayD))
      unfold lotStays
      rw [List.map_map]
      rfl
    · unfold chD freeL
      rw [List.map_map]
      rfl
    · rw [List.length_map]
      unfold toldD
      rw [nones_D]
      rfl
  · rw [isNo_opt]
    unfold haveB
    cases manyO h.length (lotStays st lot) (freeL h (lotStays st lot)) (nones lot.length) <;> rfl
theorem ok_need_both_plans (F : Fun K "need_both" "need_both" (top 62) f fd) (D1 : Dfn P w K mg base "need_house" 5 ["thing"] (sp_need_house K T)) (D2 : Dfn P w K mg base "need_stays" 6 ["thing"] (sp_need_stays K T)) : FnOk P w K mg base CX0 7 f fd ["house", "stays"] (sp_need_both K T) := by
  refine fn_mkN F sc_need_both_plans (fun _ => rfl) fun cdv A outer s H E hr a hp => ⟨.nx [some (.d (houseD a.1)), some (.d (staysD a.2))], ?_, rfl⟩
  refine evb_cons (evs_expr (r := .d .none) ?_) (evb_one (evs_expr (r := .d .none) ?_))
  · exact ev_callI D1 (hr.mono (by decide)) a.1 (eva_cons (ev_n 0) eva_nil) hp.1 rfl
  · exact ev_callI D2 (hr.mono (by decide)) a.2 (eva_cons (ev_n 1) eva_nil) hp.2 rfl
end
end N

namespace N
open PySem L2 LamX
section
variable {P : Program} {w : World} {K : PySem.W.Frag} {mg : Str → Option Value} {base : Heap} {T : Tbl} {f : Addr} {fd : FuncData}
theorem lotsOf_mem (n : Nat) (lot : List Int) : lot ∈ lotsOf n ↔ lot ∈ lotsGo n := by
  unfold lotsOf sortLots
  exact List.mem_mergeSort
theorem ok_plan (F : Fun K "plan" "plan" (top 64) f fd) (B : Bn mg) (C : Cn mg) (D1 : Dfn P w K mg base "need_both_plans" 7 ["house", "stays"] (sp_need_both K T)) (D2 : Dfn P w K mg base "plan_by" 8 ["house", "stays"] (sp_plan_by K T)) (D3 : Dfn P w K mg base "lots_of" 5 ["many"] (sp_lots K T)) (D4 : Dfn P w K mg base "have_plan" 6 ["house", "stays", "lot"] (sp_have K T)) : FnOk P w K mg base CX0 9 f fd ["house", "stays"] (sp_plan K T) := by
  refine fn_mkN F sc_plan (fun _ => rfl) fun cdv A outer s H E hr a hp => ⟨.rt (.d (planD a.1 a.2)), ?_, rfl⟩
  obtain ⟨h, st⟩ := a
  obtain ⟨hh, hs, hok, hno⟩ := hp
  dsimp only at hh hs hok hno ⊢
  have hc : ∀ {p p1 p2 pos}, Ev T (cxOf CX0 P w K mg base ["house", "stays", "found", "lot"] "plan" (defScope (top 64)) f cdv A outer s H E).nox (.Call (.Name "plan_by" p) [.Name "house" p1, .Name "stays" p2] [] pos) (startD ["house", "stays", "found", "lot"] [.d (houseD h), .d (staysD st)]) (.d (optL (planWith h st (nones st.length)))) := fun {p p1 p2 pos} =>
    ev_callI D2 (hr.mono (by decide)) (h, st) (eva_cons (ev_n 0) (eva_cons (ev_n 1) eva_nil)) ⟨hh.2.1, hs.1, hok⟩ rfl
  refine evb_cons (evs_expr (r := .d .none) (ev_callI D1 (hr.mono (by decide)) (h, st) (eva_cons (ev_n 0) (eva_cons (ev_n 1) eva_nil)) ⟨hh, hs⟩ rfl)) ?_
  cases hpw : planWith h st (nones st.length) with
  | some l =>
    rw [hpw] at hc
    have e : planD h st = .tuple [.str "plan", intsD l] := by unfold planD; rw [hpw]
    rw [e]
    exact evb_cons (evs_set 2 hc (nd_ok rfl)) (evb_out (evs_if (u := true) (evt_is (evt_notN (ev_n 2)) rfl) (fun _ => evb_one (evs_ret (ev_tup (evd_cons (ev_gs C.plan) (evd_cons (ev_n 2) evd_nil))))) (fun z => by cases z)) rfl)
  | none =>
    rw [hpw] at hc
    obtain ⟨lot0, hlot⟩ := hno hpw
    have e : planD h st = .tuple [.str "none", lotD lot0] := by unfold planD; rw [hpw]; dsimp only; rw [hlot]; rfl
    rw [e]
    obtain ⟨rst, hfil⟩ := find_head _ _ _ hlot
    refine evb_cons (evs_set 2 hc (nd_ok rfl)) (evb_cons (evs_if (u := false) (evt_is (evt_notN (ev_n 2)) rfl) (fun z => by cases z) (fun _ => evb_nil)) (evb_one (evs_ret (ev_tup (evd_cons (ev_gs C.none') (evd_cons (d := lotD lot0) ?_ evd_nil))))))
    refine ev_ixL (ds := ((lotsOf st.length).filter fun lot => !haveB h st lot).map lotD) ?_ ev_i (by rw [hfil]; exact atI_zero)
    refine ev_lc (js := [3]) [("lot", 3)] (lotsOf st.length) lotD (fun lot => !haveB h st lot) lotD (nd_ok rfl) rfl (evi_list ?_) ?_ fun lot hl => ?_
    · exact ev_callI D3 (hr.mono (by decide)) st.length (eva_cons (ev_is (ev_lenT (ds := st.map stayD) B (ev_n 1)) (by rw [List.length_map])) eva_nil) hs.1 rfl
    · unfold lotsOf sortLots
      rw [List.length_mergeSort, lotsGo_len]
      exact Nat.le_trans (Nat.pow_le_pow_right (by decide) hs.1) (by decide)
    · have hm := lotsGo_mem _ _ ((lotsOf_mem _ _).mp hl)
      refine ⟨_, fun s H0 C' cl fp => ⟨evg_n 3 (nd_ok rfl), evts_one (evt_not (evt_v ?_)), fun _ => ev_n 3⟩⟩
      exact ev_callI D4 (hr.mono (by decide)) (h, st, lot) (eva_cons (ev_n 0) (eva_cons (ev_n 1) (eva_cons (ev_n 3) eva_nil))) ⟨hh.2.1, hs.1, by show lot.length ≤ 8; have := hs.1; omega, hm.2⟩ rfl
theorem ok_are_rooms (F : Fun K "are_rooms" "are_rooms" (top 69) f fd) (B : Bn mg) (D1 : Dfn P w K mg base "is_row" 1 ["thing", "low", "high"] (sp_is_row K T)) (D2 : Dfn P w K mg base "is_among" 2 ["thing", "low", "high"] (sp_is_among K T)) : FnOk P w K mg base CX0 3 f fd ["house", "stays", "thing"] (sp_are_rooms K T) := by
  refine fn_mkN F sc_are_rooms (fun _ => rfl) fun cdv A outer s H E hr a hp => ⟨.rt (.d (.bool true)), ?_, rfl⟩
  obtain ⟨h, st, told⟩ := a
  obtain ⟨h8, hl, hrm⟩ := hp
  dsimp only at h8 hl hrm ⊢
  have e1 : rowB (told.map optD).length (st.length : Int) (st.length : Int) = true := by
    unfold rowB
    rw [List.length_map, hl]
    simp
  refine evb_cons (evs_if (u := false) (evt_not (u := true) (evt_v ?_)) (fun z => by cases z) (fun _ => evb_nil)) (evb_one (evs_ret (ev_is (ev_allM (xs := told) (q := fun _ => true) B (ev_lcM (js := [3]) [("one", 3)] told optD (fun _ => .bool true) (nd_ok rfl) rfl (evi_tup (ev_n 2)) (by omega) fun o ho => ?_)) ?_)))
  · exact ev_callI D1 (hr.mono (by decide)) (told.map optD, (st.length : Int), (st.length : Int)) (eva_cons (ev_n 2) (eva_cons (ev_is (ev_lenT (ds := st.map stayD) B (ev_n 1)) (by rw [List.length_map])) (eva_cons (ev_is (ev_lenT (ds := st.map stayD) B (ev_n 1)) (by rw [List.length_map])) eva_nil))) trivial (by show N.E.d (.bool (rowB (told.map optD).length _ _)) = _; rw [e1])
  · refine ⟨_, fun s H0 C' cl fp => ⟨evg_n 3 (nd_ok rfl), evts_nil, fun _ => ?_⟩⟩
    cases o with
    | none => exact ev_is (ev_or (u := true) (v := true) (ev_is (ev_isN (ev_n 3)) rfl) fun z => by cases z) rfl
    | some r =>
      have hr2 := hrm r ho
      refine ev_is (ev_or (u := false) (v := true) (ev_is (ev_isN (ev_n 3)) rfl) fun _ => ev_one ?_) rfl
      refine ev_callI D2 hr (r, 0, (h.length : Int) - 1) (eva_cons (ev_n 3) (eva_cons ev_i (eva_cons (ev_is (ev_sub (ev_lenT (ds := h.map .int) B (ev_n 0)) ev_i) (by rw [List.length_map])) eva_nil))) trivial ?_
      show N.E.d (.bool (amongB r 0 ((h.length : Int) - 1))) = _
      unfold amongB
      rw [decide_eq_true hr2.1, decide_eq_true (by omega : r ≤ (h.length : Int) - 1)]
      rfl
  · simp
theorem ok_nearest (F : Fun K "nearest" "nearest" (top 70) f fd) (B : Bn mg) (D1 : Dfn P w K mg base "need_both_plans" 7 ["house", "stays"] (sp_need_both K T)) (D2 : Dfn P w K mg base "are_rooms" 3 ["house", "stays", "thing"] (sp_are_rooms K T)) (D3 : Dfn P w K mg base "rooms_of" 2 ["house", "stay"] (sp_rooms_of K T)) (D4 : Dfn P w K mg base "many_otherwise" 5 ["rooms", "stays", "choices", "told"] (sp_many K T)) (D5 : Dfn P w K mg base "least_by" 6 ["rooms", "stays", "choices", "told", "many"] (sp_least K T)) : FnOk P w K mg base CX0 8 f fd ["house", "stays", "told"] (sp_nearest K T) := by
  refine fn_mkN F sc_nearest (fun _ => rfl) fun cdv A outer s H E hr a hp => ⟨.rt (.d (nearD (nearO a.1 a.2.1 a.2.2))), ?_, rfl⟩
  obtain ⟨h, st, told⟩ := a
  obtain ⟨hh, hs, hrm, hlo⟩ := hp
  dsimp only at hh hs hrm hlo ⊢
  have hfo := free_ok (h := h) (st := st) hh.2.1
  have hm : MPre ((h.length : Int), false, st, freeL h st, told) := ⟨by show (0 : Int) ≤ (h.length : Int); omega, by show (h.length : Int) ≤ 5; have := hh.2.1; omega, hs.1, hfo.1, hrm.1, hfo.2⟩
  refine evb_cons (evs_expr (r := .d .none) (ev_callI D1 hr (h, st) (eva_cons (ev_n 0) (eva_cons (ev_n 1) eva_nil)) ⟨hh, hs⟩ rfl)) (evb_cons (evs_if (u := false) (evt_not (u := true) (evt_v ?_)) (fun z => by cases z) (fun _ => evb_nil)) (evb_cons (evs_lcM (js := [5]) 3 [("stay", 5)] st stayD (fun s => .list ((roomsOf h s).map .int)) (nd_ok rfl) rfl (evi_tup (ev_n 1)) (by have := hs.1; omega) (fun x hx => ?_) (sw_true rfl rfl rfl (by decide +kernel))) (evb_cons (evs_set 4 (r := .d (optD (manyO h.length st (freeL h st) told))) ?_ (nd_ok rfl)) ?_)))
  · exact ev_callI D2 (hr.mono (by decide)) (h, st, told) (eva_cons (ev_n 0) (eva_cons (ev_n 1) (eva_cons (ev_n 2) eva_nil))) ⟨hs.1, hrm⟩ rfl
  · refine ⟨_, fun s H0 C' cl fp => ⟨evg_n 5 (nd_ok rfl), evts_nil, fun _ => ?_⟩⟩
    exact ev_callI D3 (hr.mono (by decide)) (h, x) (eva_cons (ev_n 0) (eva_cons (ev_n 5) eva_nil)) (by show h.length ≤ 1000; have := hh.2.1; omega) rfl
  · refine ev_callI D4 (hr.mono (by decide)) ((h.length : Int), false, st, freeL h st, told) (eva_cons (ev_is (ev_lenT (ds := h.map .int) B (ev_n 0)) (by rw [List.length_map])) (eva_cons (ev_n 1) (eva_cons (r := .d (chD (freeL h st))) (ev_is (ev_n 3) ?_) (eva_cons (ev_n 2) eva_nil)))) hm (by show N.E.d (optD (manyO ((h.length : Int)).toNat st _ _)) = _; rw [Int.toNat_natCast])
    unfold chD freeL
    rw [List.map_map]
    rfl
  cases hmo : manyO h.length st (freeL h st) told with
  | none =>
    have e : nearO h st told = none := by unfold nearO; rw [hmo]
    rw [e]
    exact evb_out (evs_if (u := true) (evt_is (evt_isN (ev_n 4)) rfl) (fun _ => evb_one (evs_ret ev_0)) (fun z => by cases z)) rfl
  | some m =>
    obtain ⟨r, hlr⟩ := hlo m hmo
    have e : nearO h st told = some (m, r) := by unfold nearO; rw [hmo]; dsimp only; rw [hlr]; rfl
    rw [e]
    refine evb_cons (evs_if (u := false) (evt_is (evt_isN (ev_n 4)) rfl) (fun z => by cases z) (fun _ => evb_nil)) (evb_one (evs_ret (ev_tup (evd_cons (ev_n 4) (evd_cons (d := intsD r) ?_ evd_nil)))))
    refine ev_callI D5 (hr.mono (by decide)) ((h.length : Int), st, freeL h st, told, m, r) (eva_cons (ev_is (ev_lenT (ds := h.map .int) B (ev_n 0)) (by rw [List.length_map])) (eva_cons (ev_n 1) (eva_cons (r := .d (chD (freeL h st))) (ev_is (ev_n 3) ?_) (eva_cons (ev_n 2) (eva_cons (ev_n 4) eva_nil))))) ⟨hm, by show leastO ((h.length : Int)).toNat st _ _ m = some r; rw [Int.toNat_natCast]; exact hlr⟩ rfl
    unfold chD freeL
    rw [List.map_map]
    rfl
end
end N

namespace N
open PySem L2 LamX
theorem rngF_succ (i : Int) (k : Nat) : rngF i (k + 1) = .int i :: rngF (i + 1) k := by
  unfold rngF
  rw [List.range_succ_eq_map, List.map_cons, List.map_map]
  congr 1
  · simp
  · refine List.map_congr_left fun j _ => ?_
    show PyData.int (i + ((j + 1 : Nat) : Int)) = PyData.int (i + 1 + (j : Int))
    congr 1
    omega
def rowD (p : Stay × Int) : PyData := .tuple [stayD p.1, .int p.2]
theorem plan_shaped : SeqAt.shaped (.str "plan") = true := by
  have : PyData.strOk ("plan" : Str) = true := by decide +kernel
  simp [SeqAt.shaped, PyData.canLay0, PyData.depth, this]
section
variable {P : Program} {w : World} {K : PySem.W.Frag} {mg : Str → Option Value} {base : Heap} {T : Tbl} {f : Addr} {fd : FuncData}
theorem ok_is_plan_by (F : Fun K "is_plan_by" "is_plan_by" (top 66) f fd) (B : Bn mg) (D1 : Dfn P w K mg base "is_row" 1 ["thing", "low", "high"] (sp_is_row K T)) (D2 : Dfn P w K mg base "is_among" 2 ["thing", "low", "high"] (sp_is_among K T)) (D3 : Dfn P w K mg base "may_sleep" 1 ["house", "stay", "room"] (sp_may_sleep K T)) (D4 : Dfn P w K mg base "do_meet" 1 ["one", "other"] (sp_do_meet K T)) : FnOk P w K mg base CX0 3 f fd ["house", "stays", "thing"] (sp_shows_by K T) := by
  refine fn_mkN F sc_is_plan_by (fun _ => rfl) fun cdv A outer s H E hr a hp => ⟨.rt (.d (.bool true)), ?_, rfl⟩
  obtain ⟨h, st, l⟩ := a
  obtain ⟨h5, h8, sh⟩ := hp
  dsimp only at h5 h8 sh ⊢
  have hll := sh.len
  have e1 : rowB (l.map PyData.int).length (st.length : Int) (st.length : Int) = true := by
    unfold rowB
    rw [List.length_map, hll]
    simp
  have hzl : (st.zip l).length = st.length := by rw [List.length_zip]; omega
  have hz : pairsD (st.map stayD) (l.map .int) = (st.zip l).map rowD := pairsD_zip stayD PyData.int st l
  have run : ∀ (k i : Nat) (x4 x5 x6 x7 x8 x9 : Option N.E), i + k = st.length → ∃ δ', ForRun (Turn1 T (cxOf CX0 P w K mg base ["house", "stays", "thing", "rows", "place", "stay", "room", "one", "other", "own"] "is_plan_by" (defScope (top 66)) f cdv A outer s H E).nox (forTg 3 (top 66)) (forBd 3 (top 66)))
      (pairsD (rngF (i : Int) k) (((st.zip l).drop i).map rowD)) [some (.d (houseD h)), some (.d (staysD st)), some (.d (intsD l)), some (.d (.list ((st.zip l).map rowD))), x4, x5, x6, x7, x8, x9] (.nx δ') := by
    intro k
    induction k with
    | zero =>
      intro i x4 x5 x6 x7 x8 x9 e
      refine ⟨[some (.d (houseD h)), some (.d (staysD st)), some (.d (intsD l)), some (.d (.list ((st.zip l).map rowD))), x4, x5, x6, x7, x8, x9], ?_⟩
      have e0 : rngF (i : Int) 0 = [] := rfl
      rw [e0]
      have : pairsD [] (((st.zip l).drop i).map rowD) = [] := by unfold pairsD; rfl
      rw [this]
      exact .nil
    | succ k ih =>
      intro i x4 x5 x6 x7 x8 x9 e
      have hi : i < (st.zip l).length := by omega
      have hi1 : i < st.length := by omega
      have hi2 : i < l.length := by omega
      obtain ⟨δ', q⟩ := ih (i + 1) (some (.d (.int (i : Int)))) (some (.d (stayD (st.zip l)[i].1))) (some (.d (.int (st.zip l)[i].2))) x7 x8 x9 (by omega)
      rw [rngF_succ, List.drop_eq_getElem_cons hi, List.map_cons]
      have ec : ((i : Int) + 1) = ((i + 1 : Nat) : Int) := by omega
      rw [ec]
      refine ⟨δ', .next ⟨_, _, evg_tup (evgs_cons (evg_n 4 (nd_ok rfl)) (evgs_cons (evg_tup (evgs_cons (evg_n 5 (nd_ok rfl)) (evgs_cons (evg_n 6 (nd_ok rfl)) evgs_nil))) evgs_nil)), ?_⟩ q⟩
      have hany : ((st.zip l).take i).any (fun p => decide ((st.zip l)[i].2 = p.2) && meetB (st.zip l)[i].1 p.1) = false := by
        rw [← Bool.not_eq_true, List.any_eq_true]
        rintro ⟨p, hp, hq⟩
        obtain ⟨j, hj⟩ := List.mem_iff_getElem?.mp hp
        have hjl : j < ((st.zip l).take i).length := (List.getElem?_eq_some_iff.mp hj).1
        rw [List.length_take] at hjl
        have hji : j < i := by omega
        rw [List.getElem?_take, if_pos hji, List.getElem?_eq_getElem (by omega)] at hj
        have ep := Option.some.inj hj
        rw [Bool.and_eq_true] at hq
        have h1 := of_decide_eq_true hq.1
        have h2 := hq.2
        rw [← ep] at h1 h2
        rw [List.getElem_zip] at h1 h2
        rw [List.getElem_zip] at h1 h2
        have := sh.apart j i hji hi1 (by
          rw [List.getD_eq_getElem?_getD, List.getElem?_eq_getElem (by omega), List.getD_eq_getElem?_getD, List.getElem?_eq_getElem hi2]
          exact h1.symm)
        rw [List.getD_eq_getElem?_getD, List.getElem?_eq_getElem hi1, List.getD_eq_getElem?_getD, List.getElem?_eq_getElem (by omega)] at this
        rw [show (some st[i]).getD (0, 0, 0) = st[i] from rfl, show (some st[j]).getD (0, 0, 0) = st[j] from rfl] at this
        dsimp only at h2
        rw [this] at h2
        cases h2
      refine evb_one (evs_if (u := false) (evt_is (evt_v (ev_anyM (xs := (st.zip l).take i) (q := fun p => decide ((st.zip l)[i].2 = p.2) && meetB (st.zip l)[i].1 p.1) B ?_)) hany) (fun z => by cases z) (fun _ => evb_nil))
      refine ev_lcM (js := [8, 9]) [("other", 8), ("own", 9)] ((st.zip l).take i) rowD (fun p => .bool (decide ((st.zip l)[i].2 = p.2) && meetB (st.zip l)[i].1 p.1)) (nd_ok rfl) rfl (evi_list (ev_is (ev_slL (ds := (st.zip l).map rowD) (ev_n 3) evo_none (evo_some (ev_n 4))) ?_)) ?_ fun p hp => ?_
      · rw [cutD_to _ _ (by rw [List.length_map]; omega), List.map_take]
      · rw [List.length_take]
        omega
      · refine ⟨_, fun s H0 C' cl fp => ⟨evg_tup (evgs_cons (evg_n 8 (nd_ok rfl)) (evgs_cons (evg_n 9 (nd_ok rfl)) evgs_nil)), evts_nil, fun _ => ev_and (ev_eq (ev_n 6) (ev_n 9)) fun _ => ev_one ?_⟩⟩
        exact ev_callI D4 (hr.mono (by decide)) ((st.zip l)[i].1, p.1) (eva_cons (ev_n 5) (eva_cons (ev_n 8) eva_nil)) trivial rfl
  obtain ⟨δ', q⟩ := run st.length 0 none none none none none none (by omega)
  have eF : enumF 0 ((st.zip l).map rowD) = pairsD (rngF ((0 : Nat) : Int) st.length) (((st.zip l).drop 0).map rowD) := by
    unfold enumF
    rw [List.length_map, hzl]
    rfl
  rw [← eF] at q
  refine evb_cons (evs_if (u := false) (evt_is (evt_or (u := false) (v := false) (evt_is (evt_not (u := true) (evt_v ?_)) rfl) fun _ => (evt_is (evt_not (u := true) (evt_v ?_)) rfl)) rfl) (fun z => by cases z) (fun _ => evb_nil)) (evb_cons (evs_set 3 (ev_is (ev_listZs (ds := st.map stayD) (ds2 := l.map .int) B (ev_n 1) (ev_n 2) ?_ ?_) (by rw [hz])) (nd_ok rfl)) (evb_cons (evs_if (u := false) (evt_not (u := true) (evt_v ?_)) (fun z => by cases z) (fun _ => evb_nil)) (evb_cons (evs_for (ds := enumF 0 ((st.zip l).map rowD)) (evi_enum B (ev_n 3) B.enumerate) q) (evb_one (evs_ret ev_b)))))
  · exact ev_callI D1 (hr.mono (by decide)) (l.map .int, (st.length : Int), (st.length : Int)) (eva_cons (ev_n 2) (eva_cons (ev_is (ev_lenT (ds := st.map stayD) B (ev_n 1)) (by rw [List.length_map])) (eva_cons (ev_is (ev_lenT (ds := st.map stayD) B (ev_n 1)) (by rw [List.length_map])) eva_nil))) trivial (by show N.E.d (.bool (rowB (l.map PyData.int).length _ _)) = _; rw [e1])
  · refine ev_is (ev_allM (xs := l) (q := fun r => amongB r 0 ((h.length : Int) - 1)) B (ev_lcM (js := [7]) [("one", 7)] l .int (fun r => .bool (amongB r 0 ((h.length : Int) - 1))) (nd_ok rfl) rfl (evi_tup (ev_n 2)) (by omega) fun r hr' => ?_)) ?_
    · refine ⟨_, fun s H0 C' cl fp => ⟨evg_n 7 (nd_ok rfl), evts_nil, fun _ => ?_⟩⟩
      exact ev_callI D2 hr (r, 0, (h.length : Int) - 1) (eva_cons (ev_n 7) (eva_cons ev_i (eva_cons (ev_is (ev_sub (ev_lenT (ds := h.map .int) B (ev_n 0)) ev_i) (by rw [List.length_map])) eva_nil))) trivial rfl
    · have : l.all (fun r => amongB r 0 ((h.length : Int) - 1)) = true := List.all_eq_true.mpr fun r hr' => by
        have := sh.rng r hr'
        unfold amongB
        rw [decide_eq_true this.1, decide_eq_true (by omega : r ≤ (h.length : Int) - 1)]
        rfl
      rw [this]
  · rw [List.length_map, List.length_map]
    exact hll.symm
  · rw [List.length_map]
    omega
  · refine ev_is (ev_allM (xs := st.zip l) (q := fun p => decide (p.1.1 ≤ h.getD p.2.toNat 0)) B (ev_lcM (js := [5, 6]) [("stay", 5), ("room", 6)] (st.zip l) rowD (fun p => .bool (decide (p.1.1 ≤ h.getD p.2.toNat 0))) (nd_ok rfl) rfl (evi_list (ev_n 3)) (by omega) fun p hp => ?_)) ?_
    · refine ⟨_, fun s H0 C' cl fp => ⟨evg_tup (evgs_cons (evg_n 5 (nd_ok rfl)) (evgs_cons (evg_n 6 (nd_ok rfl)) evgs_nil)), evts_nil, fun _ => ?_⟩⟩
      exact ev_callI D3 (hr.mono (by decide)) (h, p.1, p.2) (eva_cons (ev_n 0) (eva_cons (ev_n 5) (eva_cons (ev_n 6) eva_nil))) (sh.rng p.2 (List.of_mem_zip hp).2) rfl
    · have : (st.zip l).all (fun p => decide (p.1.1 ≤ h.getD p.2.toNat 0)) = true := List.all_eq_true.mpr fun p hp => decide_eq_true (sh.may p hp)
      rw [this]
theorem ok_shows (F : Fun K "shows_plan" "shows_plan" (top 68) f fd) (B : Bn mg) (C : Cn mg) (D1 : Dfn P w K mg base "need_both_plans" 7 ["house", "stays"] (sp_need_both K T)) (D2 : Dfn P w K mg base "is_row" 1 ["thing", "low", "high"] (sp_is_row K T)) (D3 : Dfn P w K mg base "is_plan_by" 3 ["house", "stays", "thing"] (sp_shows_by K T)) : FnOk P w K mg base CX0 8 f fd ["house", "stays", "thing"] (sp_shows K T) := by
  refine fn_mkN F sc_shows_plan (fun _ => rfl) fun cdv A outer s H E hr a hp => ⟨.rt (.d (.bool true)), ?_, rfl⟩
  obtain ⟨h, st, l⟩ := a
  obtain ⟨hh, hs, sh⟩ := hp
  dsimp only at hh hs sh ⊢
  refine evb_cons (evs_expr (r := .d .none) (ev_callI D1 hr (h, st) (eva_cons (ev_n 0) (eva_cons (ev_n 1) eva_nil)) ⟨hh, hs⟩ rfl)) (evb_cons (evs_if (u := false) (evt_is (evt_or (u := false) (v := false) (evt_is (evt_not (u := true) (evt_v ?_)) rfl) fun _ => (evt_is (evt_not (u := true) (evt_v ?_)) rfl)) rfl) (fun z => by cases z) (fun _ => evb_nil)) (evb_out (evs_if (u := true) (evt_is (evt_eqD hr.units (d1 := .str "plan") (ev_ixT (ds := [.str "plan", intsD l]) (ev_n 2) ev_i rfl) (ev_gs C.plan) plan_shaped plan_shaped) (by simp [PyData.eqv])) (fun _ => evb_one (evs_ret ?_)) (fun z => by cases z)) rfl))
  · exact ev_callI D2 (hr.mono (by decide)) ([.str "plan", intsD l], 2, 2) (eva_cons (ev_n 2) (eva_cons ev_i (eva_cons ev_i eva_nil))) trivial rfl
  · exact ev_isStr (u := true) B (ev_ixT (ds := [.str "plan", intsD l]) (ev_n 2) ev_i rfl)
  · exact ev_callI D3 (hr.mono (by decide)) (h, st, l) (eva_cons (ev_n 0) (eva_cons (ev_n 1) (eva_cons (ev_ixT (ds := [.str "plan", intsD l]) (ev_n 2) ev_i rfl) eva_nil))) ⟨hh.2.1, hs.1, sh⟩ rfl
end
end N

namespace N
/-! ### what the table says -/
theorem getT_put (t : Tab) (k : List Int) (v : Int) (k' : List Int) : getT (putT t k v) k' = if k' = k then some v else getT t k' := by
  unfold putT
  by_cases h : (t.any fun p => decide (p.1 = k)) = true
  · rw [if_pos h]
    unfold getT
    induction t with
    | nil => simp at h
    | cons p r ih =>
      rw [List.map_cons, List.find?_cons, List.find?_cons]
      by_cases e : p.1 = k
      · rw [if_pos e]
        by_cases e2 : k' = k
        · rw [if_pos e2]
          have : decide ((p.1, v).1 = k') = true := decide_eq_true (by rw [e2]; exact e)
          rw [this]
          rfl
        · rw [if_neg e2]
          have h1 : decide ((p.1, v).1 = k') = false := decide_eq_false fun z => e2 (by rw [← z]; exact e)
          have h2 : decide (p.1 = k') = false := h1
          rw [h1]
          by_cases hr : (r.any fun p => decide (p.1 = k)) = true
          · have := ih hr
            rw [if_neg e2] at this
            exact this
          · have : r.map (fun p => if p.1 = k then (p.1, v) else p) = r := by
              conv => rhs; rw [← List.map_id r]
              refine List.map_congr_left fun q hq => ?_
              rw [if_neg fun z => hr (List.any_eq_true.mpr ⟨q, hq, decide_eq_true z⟩)]
              rfl
            rw [this]
      · rw [if_neg e]
        have hr : (r.any fun p => decide (p.1 = k)) = true := by
          rw [List.any_cons, decide_eq_false e, Bool.false_or] at h
          exact h
        have ih' := ih hr
        by_cases e3 : p.1 = k'
        · have e2 : k' ≠ k := fun z => e (by rw [e3]; exact z)
          rw [decide_eq_true e3, if_neg e2]
        · rw [decide_eq_false e3]
          exact ih'
  · rw [if_neg h]
    unfold getT
    rw [List.find?_append]
    by_cases e2 : k' = k
    · rw [if_pos e2]
      have : t.find? (fun p => decide (p.1 = k')) = none := by
        rw [List.find?_eq_none]
        intro q hq z
        exact h (List.any_eq_true.mpr ⟨q, hq, by rw [← e2]; exact z⟩)
      rw [this]
      have h3 : decide (k = k') = true := decide_eq_true e2.symm
      simp [h3]
    · rw [if_neg e2]
      have h3 : decide (k = k') = false := decide_eq_false fun z => e2 z.symm
      cases t.find? (fun p => decide (p.1 = k')) <;> simp [h3]
theorem getT_mem {t : Tab} {k : List Int} {v : Int} (h : getT t k = some v) : (k, v) ∈ t := by
  unfold getT at h
  cases q : t.find? (fun p => decide (p.1 = k)) with
  | none => rw [q] at h; cases h
  | some p =>
    rw [q] at h
    have h1 := List.mem_of_find?_eq_some q
    have h2 : p.1 = k := of_decide_eq_true (List.find?_some (p := fun (p : List Int × Int) => decide (p.1 = k)) q)
    have h3 : p.2 = v := Option.some.inj h
    rw [← h2, ← h3]
    exact h1
theorem mem_getT {t : Tab} {p : List Int × Int} (h : p ∈ t) : ∃ m, getT t p.1 = some m := by
  unfold getT
  cases q : t.find? (fun r => decide (r.1 = p.1)) with
  | none =>
    have := List.find?_eq_none.mp q p h
    simp at this
  | some r => exact ⟨r.2, rfl⟩
theorem put_mem {t : Tab} {k : List Int} {v : Int} {q : List Int × Int} (h : q ∈ putT t k v) : q ∈ t ∨ q = (k, v) := by
  unfold putT at h
  split at h
  · obtain ⟨p, hp, e⟩ := List.mem_map.mp h
    by_cases z : p.1 = k
    · rw [if_pos z] at e
      right
      rw [← e, z]
    · rw [if_neg z] at e
      left
      rw [← e]
      exact hp
  · rcases List.mem_append.mp h with z | z
    · exact .inl z
    · exact .inr (List.mem_singleton.mp z)
def LeT (t : Tab) (k : List Int) (c : Int) : Prop := ∃ m, getT t k = some m ∧ m ≤ c
def nextK (s : Stay) (free : List Int) (r : Int) : List Int := takenI free r s.2.1 (s.2.1 + s.2.2)
theorem stepRoom_mem {s : Stay} {own : Option Int} {p : List Int × Int} {later : Tab} {r : Int} {q : List Int × Int} (h : q ∈ stepRoom s own p later r) : q ∈ later ∨ (p.1.getD r.toNat 0 ≤ s.2.1 ∧ q = (nextK s p.1 r, p.2 + offI own r)) := by
  unfold stepRoom at h
  split at h
  · rename_i hc
    rcases put_mem h with z | z
    · exact .inl z
    · cases hg : getT later (takenI p.1 r s.2.1 (s.2.1 + s.2.2)) with
      | none =>
        rw [hg] at z
        right
        refine ⟨hc, ?_⟩
        rw [z]
        show (_, min (p.2 + offI own r) (p.2 + offI own r)) = _
        rw [Int.min_self]
        rfl
      | some v =>
        rw [hg] at z
        have hm := getT_mem hg
        have z : q = (takenI p.1 r s.2.1 (s.2.1 + s.2.2), min v (p.2 + offI own r)) := z
        by_cases hv : v ≤ p.2 + offI own r
        · left
          rw [z, Int.min_eq_left hv]
          exact hm
        · right
          refine ⟨hc, ?_⟩
          rw [z, Int.min_eq_right (by omega)]
          rfl
  · exact .inl h
theorem stepRoom_le {s : Stay} {own : Option Int} {p : List Int × Int} {later : Tab} {r : Int} {k : List Int} {c : Int} (h : LeT later k c) : LeT (stepRoom s own p later r) k c := by
  unfold stepRoom
  split
  · obtain ⟨m, h1, h2⟩ := h
    unfold LeT
    rw [getT_put]
    by_cases e : k = takenI p.1 r s.2.1 (s.2.1 + s.2.2)
    · rw [if_pos e, ← e, h1]
      refine ⟨_, rfl, ?_⟩
      show min m _ ≤ c
      omega
    · rw [if_neg e]
      exact ⟨m, h1, h2⟩
  · exact h
theorem stepRoom_own {s : Stay} {own : Option Int} {p : List Int × Int} {later : Tab} {r : Int} (hc : p.1.getD r.toNat 0 ≤ s.2.1) : LeT (stepRoom s own p later r) (nextK s p.1 r) (p.2 + offI own r) := by
  unfold stepRoom
  rw [if_pos hc]
  unfold LeT
  rw [getT_put]
  unfold nextK
  rw [if_pos rfl]
  exact ⟨_, rfl, Int.min_le_right _ _⟩
theorem stepState_mem {s : Stay} {own : Option Int} {p q : List Int × Int} : ∀ {rooms : List Int} {later : Tab}, q ∈ stepState s own rooms later p → q ∈ later ∨ ∃ r ∈ rooms, p.1.getD r.toNat 0 ≤ s.2.1 ∧ q = (nextK s p.1 r, p.2 + offI own r)
  | [], later, h => .inl h
  | r :: rs, later, h => by
    have h : q ∈ stepState s own rs (stepRoom s own p later r) p := h
    rcases stepState_mem h with z | ⟨r', h1, h2⟩
    · rcases stepRoom_mem z with y | y
      · exact .inl y
      · exact .inr ⟨r, List.mem_cons_self, y⟩
    · exact .inr ⟨r', List.mem_cons_of_mem _ h1, h2⟩
theorem stepState_le {s : Stay} {own : Option Int} {p : List Int × Int} {k : List Int} {c : Int} : ∀ {rooms : List Int} {later : Tab}, LeT later k c → LeT (stepState s own rooms later p) k c
  | [], later, h => h
  | r :: rs, later, h => stepState_le (rooms := rs) (later := stepRoom s own p later r) (stepRoom_le h)
theorem stepState_own {s : Stay} {own : Option Int} {p : List Int × Int} {r : Int} (hc : p.1.getD r.toNat 0 ≤ s.2.1) : ∀ {rooms : List Int} {later : Tab}, r ∈ rooms → LeT (stepState s own rooms later p) (nextK s p.1 r) (p.2 + offI own r)
  | [], later, h => by simp at h
  | r' :: rs, later, h => by
    rcases List.mem_cons.mp h with e | e
    · subst e
      exact stepState_le (rooms := rs) (later := stepRoom s own p later r) (stepRoom_own hc)
    · exact stepState_own hc (rooms := rs) (later := stepRoom s own p later r') e
theorem states_mem {s : Stay} {own : Option Int} {rooms : List Int} {q : List Int × Int} : ∀ {found later : Tab}, q ∈ found.foldl (stepState s own rooms) later → q ∈ later ∨ ∃ p ∈ found, ∃ r ∈ rooms, p.1.getD r.toNat 0 ≤ s.2.1 ∧ q = (nextK s p.1 r, p.2 + offI own r)
  | [], later, h => .inl h
  | p :: ps, later, h => by
    rcases states_mem (found := ps) h with z | ⟨p', h1, h2⟩
    · rcases stepState_mem z with y | y
      · exact .inl y
      · exact .inr ⟨p, List.mem_cons_self, y⟩
    · exact .inr ⟨p', List.mem_cons_of_mem _ h1, h2⟩
theorem states_le {s : Stay} {own : Option Int} {rooms : List Int} {k : List Int} {c : Int} : ∀ {found later : Tab}, LeT later k c → LeT (found.foldl (stepState s own rooms) later) k c
  | [], later, h => h
  | p :: ps, later, h => states_le (found := ps) (stepState_le h)
theorem states_own {s : Stay} {own : Option Int} {rooms : List Int} {p : List Int × Int} {r : Int} (hr : r ∈ rooms) (hc : p.1.getD r.toNat 0 ≤ s.2.1) : ∀ {found later : Tab}, p ∈ found → LeT (found.foldl (stepState s own rooms) later) (nextK s p.1 r) (p.2 + offI own r)
  | [], later, h => by simp at h
  | p' :: ps, later, h => by
    rcases List.mem_cons.mp h with e | e
    · subst e
      exact states_le (found := ps) (stepState_own hc hr)
    · exact states_own hr hc (found := ps) e
def stOf (st : List Stay) (n : Nat) : Stay := st.getD n (0, 0, 0)
/-- the rooms of an assignment can be taken one after another -/
def Feas (st : List Stay) (g : Nat → Int) : List Nat → List Int → Prop
  | [], _ => True
  | n :: ns, free => free.getD (g n).toNat 0 ≤ (stOf st n).2.1 ∧ Feas st g ns (nextK (stOf st n) free (g n))
def costN (told : List (Option Int)) (g : Nat → Int) : List Nat → Int
  | [] => 0
  | n :: ns => offI (told.getD n none) (g n) + costN told g ns
theorem Feas.congr {st : List Stay} {g g' : Nat → Int} : ∀ {ns : List Nat} {free : List Int}, (∀ n ∈ ns, g n = g' n) → Feas st g ns free → Feas st g' ns free
  | [], _, _, _ => trivial
  | n :: ns, free, h, q => by
    have e := h n List.mem_cons_self
    unfold Feas at q ⊢
    rw [← e]
    exact ⟨q.1, Feas.congr (fun m hm => h m (List.mem_cons_of_mem _ hm)) q.2⟩
theorem costN_congr {told : List (Option Int)} {g g' : Nat → Int} : ∀ {ns : List Nat}, (∀ n ∈ ns, g n = g' n) → costN told g ns = costN told g' ns
  | [], _ => rfl
  | n :: ns, h => by
    unfold costN
    rw [h n List.mem_cons_self, costN_congr fun m hm => h m (List.mem_cons_of_mem _ hm)]
theorem fold_sound {st : List Stay} {ch : List (List Int)} {told : List (Option Int)} : ∀ {ns : List Nat} {t : Tab} {q : List Int × Int}, ns.Nodup → q ∈ ns.foldl (stepNum st ch told) t →
    ∃ p ∈ t, ∃ g : Nat → Int, (∀ n ∈ ns, g n ∈ ch.getD n []) ∧ Feas st g ns p.1 ∧ q.2 = p.2 + costN told g ns
  | [], t, q, _, h => ⟨q, h, fun _ => 0, by simp, trivial, by simp [costN]⟩
  | n :: ns, t, q, hn, h => by
    obtain ⟨hn1, hn2⟩ := List.nodup_cons.mp hn
    obtain ⟨p1, hp1, g, hg1, hg2, hg3⟩ := fold_sound hn2 (t := stepNum st ch told t n) h
    rcases states_mem hp1 with z | ⟨p, hp, r, hr, hc, e⟩
    · simp at z
    · have hne : ∀ m ∈ ns, g m = (fun m => if m = n then r else g m) m := fun m hm => by
        show g m = if m = n then r else g m
        rw [if_neg fun (z : m = n) => hn1 (z ▸ hm)]
      refine ⟨p, hp, fun m => if m = n then r else g m, fun m hm => ?_, ?_, ?_⟩
      · rcases List.mem_cons.mp hm with y | y
        · subst y
          simpa using hr
        · rw [← hne m y]
          exact hg1 m y
      · unfold Feas
        refine ⟨by simpa [stOf] using hc, ?_⟩
        have := hg2.congr hne
        rw [e] at this
        simpa [stOf] using this
      · unfold costN
        rw [← costN_congr hne, hg3, e]
        simp
        omega
theorem fold_complete {st : List Stay} {ch : List (List Int)} {told : List (Option Int)} {g : Nat → Int} : ∀ {ns : List Nat} {t : Tab} {p : List Int × Int}, p ∈ t → (∀ n ∈ ns, g n ∈ ch.getD n []) → Feas st g ns p.1 →
    ∃ q ∈ ns.foldl (stepNum st ch told) t, q.2 ≤ p.2 + costN told g ns
  | [], t, p, h, _, _ => ⟨p, h, by simp [costN]⟩
  | n :: ns, t, p, h, hg, hf => by
    unfold Feas at hf
    obtain ⟨m, h1, h2⟩ := states_own (s := stOf st n) (own := told.getD n none) (rooms := ch.getD n []) (later := []) (hg n List.mem_cons_self) hf.1 h
    obtain ⟨q, hq, hle⟩ := fold_complete (told := told) (t := stepNum st ch told t n) (p := (nextK (stOf st n) p.1 (g n), m)) (getT_mem h1) (fun k hk => hg k (List.mem_cons_of_mem _ hk)) hf.2
    refine ⟨q, hq, ?_⟩
    unfold costN
    have : (nextK (stOf st n) p.1 (g n), m).2 = m := rfl
    rw [this] at hle
    omega
/-- an assignment that keeps the choices and can be taken -/
structure OkA (rooms : Nat) (st : List Stay) (ch : List (List Int)) (g : Nat → Int) : Prop where
  ch : ∀ n, n < st.length → g n ∈ ch.getD n []
  fe : Feas st g (inOrder st) (List.replicate rooms 0)
def costA (st : List Stay) (told : List (Option Int)) (g : Nat → Int) : Int := costN told g (inOrder st)
theorem inOrder_nodup (st : List Stay) : (inOrder st).Nodup := by
  unfold inOrder
  exact (List.mergeSort_perm _ _).nodup_iff.mpr List.nodup_range
theorem inOrder_mem {st : List Stay} {n : Nat} (h : n < st.length) : n ∈ inOrder st := by
  unfold inOrder
  rw [List.mem_mergeSort, List.mem_range]
  exact h
theorem many_sound {rooms : Nat} {st : List Stay} {ch : List (List Int)} {told : List (Option Int)} {m : Int} (h : manyO rooms st ch told = some m) : ∃ g, OkA rooms st ch g ∧ costA st told g = m := by
  have hm : ∃ q ∈ tabOf rooms st ch told, q.2 = m := by
    unfold manyO at h
    split at h
    · cases h
    · rename_i p r e
      have := minL_mem (l := (p :: r).map (·.2)) (by simp)
      obtain ⟨q, hq, z⟩ := List.mem_map.mp this
      rw [Option.some.inj h] at z
      exact ⟨q, by rw [e]; exact hq, z⟩
  obtain ⟨q, hq, e⟩ := hm
  obtain ⟨p, hp, g, h1, h2, h3⟩ := fold_sound (inOrder_nodup st) hq
  have ep : p = (List.replicate rooms 0, 0) := by simpa [tab0] using hp
  subst ep
  refine ⟨g, ⟨fun n hn => h1 n (inOrder_mem hn), h2⟩, ?_⟩
  unfold costA
  rw [← e, h3]
  simp
theorem many_complete {rooms : Nat} {st : List Stay} {ch : List (List Int)} (told : List (Option Int)) {g : Nat → Int} (h : OkA rooms st ch g) : ∃ m, manyO rooms st ch told = some m ∧ m ≤ costA st told g := by
  obtain ⟨q, hq, hle⟩ := fold_complete (told := told) (t := tab0 rooms) (p := (List.replicate rooms 0, 0)) (by simp [tab0]) (fun n hn => h.ch n (inOrder_lt st n hn)) h.fe
  have hq : q ∈ tabOf rooms st ch told := hq
  unfold manyO
  split
  · rename_i e
    rw [e] at hq
    simp at hq
  · rename_i p r e
    refine ⟨_, rfl, ?_⟩
    rw [e] at hq
    have := minL_le (l := (p :: r).map (·.2)) q.2 (List.mem_map_of_mem hq)
    unfold costA
    have e0 : (List.replicate rooms (0 : Int), (0 : Int)).2 = 0 := rfl
    rw [e0] at hle
    omega
theorem offI_nn (o : Option Int) (r : Int) : 0 ≤ offI o r := by
  unfold offI
  split
  · omega
  · split <;> omega
theorem costN_nn (told : List (Option Int)) (g : Nat → Int) : ∀ ns : List Nat, 0 ≤ costN told g ns
  | [] => by simp [costN]
  | n :: ns => by
    have h1 := offI_nn (told.getD n none) (g n)
    have h2 := costN_nn told g ns
    unfold costN
    omega
theorem costN_zero {told : List (Option Int)} {g : Nat → Int} : ∀ {ns : List Nat}, costN told g ns = 0 → ∀ n ∈ ns, offI (told.getD n none) (g n) = 0
  | [], _, n, h => by simp at h
  | m :: ns, e, n, h => by
    have h1 := offI_nn (told.getD m none) (g m)
    have h2 := costN_nn told g ns
    unfold costN at e
    rcases List.mem_cons.mp h with z | z
    · rw [z]; omega
    · exact costN_zero (by omega) n z
theorem costN_of_zero {told : List (Option Int)} {g : Nat → Int} : ∀ {ns : List Nat}, (∀ n ∈ ns, offI (told.getD n none) (g n) = 0) → costN told g ns = 0
  | [], _ => rfl
  | m :: ns, h => by
    unfold costN
    rw [h m List.mem_cons_self, costN_of_zero fun n hn => h n (List.mem_cons_of_mem _ hn)]
    rfl
theorem nones_get (k n : Nat) : (nones k).getD n none = none := by
  unfold nones
  rw [List.getD_eq_getElem?_getD, List.getElem?_replicate]
  split <;> rfl
theorem cost_nones (st : List Stay) (k : Nat) (g : Nat → Int) : costA st (nones k) g = 0 := costN_of_zero fun n _ => by rw [nones_get]; rfl
end N

namespace N
theorem narrow_get {ch : List (List Int)} {n : Nat} (r : Int) (hn : n < ch.length) (m : Nat) : (narrowI ch n r).getD m [] = if m = n then [r] else ch.getD m [] := by
  unfold narrowI
  simp only [List.getD_eq_getElem?_getD]
  by_cases e : m = n
  · subst e
    rw [if_pos rfl, List.append_assoc, List.getElem?_append_right (by rw [List.length_take]; omega), List.length_take, Nat.min_eq_left (by omega), Nat.sub_self]
    rfl
  · rw [if_neg e]
    by_cases l : m < n
    · rw [List.append_assoc, List.getElem?_append_left (by rw [List.length_take]; omega), List.getElem?_take, if_pos l]
    · rw [List.getElem?_append_right (by simp; omega)]
      simp
      rw [Nat.min_eq_left (by omega)]
      congr 2
      omega
def rangeFrom (i k : Nat) : List Nat := List.range' i k
/-- what least_by keeps from turn to turn -/
structure Nar (i : Nat) (ch0 ch : List (List Int)) : Prop where
  len : ch.length = ch0.length
  sub : ∀ n, ∀ r ∈ ch.getD n [], r ∈ ch0.getD n []
  one : ∀ n, n < i → ∃ r, ch.getD n [] = [r]
theorem Nar.step {i : Nat} {ch0 ch : List (List Int)} {r : Int} (h : Nar i ch0 ch) (hi : i < ch.length) (hr : r ∈ ch.getD i []) : Nar (i + 1) ch0 (narrowI ch i r) := by
  refine ⟨by rw [narrow_len hi]; exact h.len, fun n x hx => ?_, fun n hn => ?_⟩
  · rw [narrow_get r hi] at hx
    split at hx
    · rename_i e
      rw [List.mem_singleton.mp hx, e]
      exact h.sub i r hr
    · exact h.sub n x hx
  · rw [narrow_get r hi]
    split
    · exact ⟨r, rfl⟩
    · exact h.one n (by omega)
theorem OkA.sub {rooms : Nat} {st : List Stay} {ch ch' : List (List Int)} {g : Nat → Int} (h : OkA rooms st ch g) (hs : ∀ n, n < st.length → g n ∈ ch'.getD n []) : OkA rooms st ch' g := ⟨hs, h.fe⟩
theorem many_le {rooms : Nat} {st : List Stay} {ch ch' : List (List Int)} {told : List (Option Int)} {m : Int} (h : manyO rooms st ch told = some m) (hs : ∀ n, ∀ r ∈ ch'.getD n [], r ∈ ch.getD n []) : ∀ m', manyO rooms st ch' told = some m' → m ≤ m' := by
  intro m' h'
  obtain ⟨g, hg, e⟩ := many_sound h'
  obtain ⟨m2, h2, hle⟩ := many_complete told (hg.sub (ch' := ch) fun n hn => hs n _ (hg.ch n hn))
  rw [h] at h2
  have := Option.some.inj h2
  omega
theorem narrow_keeps {rooms : Nat} {st : List Stay} {ch : List (List Int)} {told : List (Option Int)} {m : Int} {i : Nat} (h : manyO rooms st ch told = some m) (hi : i < ch.length) (hst : i < st.length) : ∃ r ∈ ch.getD i [], manyO rooms st (narrowI ch i r) told = some m := by
  obtain ⟨g, hg, e⟩ := many_sound h
  have hr := hg.ch i hst
  refine ⟨g i, hr, ?_⟩
  have ok2 : OkA rooms st (narrowI ch i (g i)) g := hg.sub fun n hn => by
    rw [narrow_get _ hi]
    split
    · rename_i z
      rw [z]
      simp
    · exact hg.ch n hn
  obtain ⟨m2, h2, hle⟩ := many_complete told ok2
  have := many_le h (ch' := narrowI ch i (g i)) (fun n r hx => by
    rw [narrow_get _ hi] at hx
    split at hx
    · rename_i z
      rw [List.mem_singleton.mp hx, z]
      exact hr
    · exact hx) m2 h2
  rw [h2]
  congr 1
  omega
theorem leastGo_ok {rooms : Nat} {st : List Stay} {told : List (Option Int)} {m : Int} {ch0 : List (List Int)} (hl : ch0.length = st.length) : ∀ (k i : Nat) (ch : List (List Int)), i + k = st.length → Nar i ch0 ch → manyO rooms st ch told = some m →
    ∃ c, leastGo rooms st told m (List.range' i k) ch = some c ∧ Nar st.length ch0 c ∧ manyO rooms st c told = some m
  | 0, i, ch, e, hn, hm => ⟨ch, rfl, by rw [show st.length = i by omega]; exact hn, hm⟩
  | k + 1, i, ch, e, hn, hm => by
    have hi : i < ch.length := by rw [hn.len]; omega
    obtain ⟨r, hr, hrm⟩ := narrow_keeps hm hi (by omega)
    rw [List.range'_succ]
    unfold leastGo
    cases hf : ((ch.getD i []).map (narrowI ch i)).find? (fun one => decide (manyO rooms st one told = some m)) with
    | none =>
      have := List.find?_eq_none.mp hf _ (List.mem_map_of_mem hr)
      rw [decide_eq_true hrm] at this
      exact absurd rfl this
    | some c =>
      have h1 := of_decide_eq_true (List.find?_some (p := fun one => decide (manyO rooms st one told = some m)) hf)
      obtain ⟨r', hr', e'⟩ := List.mem_map.mp (List.mem_of_find?_eq_some hf)
      subst e'
      exact leastGo_ok hl k (i + 1) _ (by omega) (hn.step hi hr') h1
theorem range_range' (n : Nat) : List.range n = List.range' 0 n := List.range_eq_range'
theorem singles_all {c : List (List Int)} {n : Nat} (hl : c.length = n) (h : ∀ i, i < n → ∃ r, c.getD i [] = [r]) : (c.all fun l => !l.isEmpty) = true := by
  rw [List.all_eq_true]
  intro l hm
  obtain ⟨i, hi⟩ := List.mem_iff_getElem?.mp hm
  have hlt : i < c.length := (List.getElem?_eq_some_iff.mp hi).1
  obtain ⟨r, hr⟩ := h i (by omega)
  rw [List.getD_eq_getElem?_getD, hi] at hr
  have hr : l = [r] := hr
  rw [hr]
  rfl
/-- what least_by gives -/
theorem least_ok {rooms : Nat} {st : List Stay} {ch : List (List Int)} {told : List (Option Int)} {m : Int} (hl : ch.length = st.length) (h : manyO rooms st ch told = some m) :
    ∃ l, leastO rooms st ch told m = some l ∧ l.length = st.length ∧ (∀ n, n < st.length → l.getD n 0 ∈ ch.getD n []) ∧ Feas st (fun n => l.getD n 0) (inOrder st) (List.replicate rooms 0) ∧ costA st told (fun n => l.getD n 0) = m := by
  obtain ⟨c, h1, h2, h3⟩ := leastGo_ok hl st.length 0 ch (by omega) ⟨rfl, fun _ _ z => z, fun n hn => absurd hn (Nat.not_lt_zero n)⟩ h
  obtain ⟨g, hg, e⟩ := many_sound h3
  have hcl : c.length = st.length := by rw [h2.len, hl]
  have hget : ∀ n, n < st.length → (c.map fun l => l.headD 0).getD n 0 = g n := fun n hn => by
    obtain ⟨r, hr⟩ := h2.one n hn
    have hgn := hg.ch n hn
    rw [hr] at hgn
    rw [List.mem_singleton.mp hgn]
    rw [List.getD_eq_getElem?_getD, List.getElem?_eq_getElem (by omega)] at hr
    rw [List.getD_eq_getElem?_getD, List.getElem?_map, List.getElem?_eq_getElem (by omega)]
    have hr : c[n] = [r] := hr
    show (c[n]).headD 0 = r
    rw [hr]
    rfl
  refine ⟨c.map fun l => l.headD 0, ?_, by rw [List.length_map]; exact hcl, fun n hn => ?_, ?_, ?_⟩
  · unfold leastO
    rw [range_range', h1]
    dsimp only
    rw [if_pos (singles_all hcl h2.one)]
  · rw [hget n hn]
    exact h2.sub n _ (hg.ch n hn)
  · exact hg.fe.congr fun n hn => (hget n (inOrder_lt st n hn)).symm
  · rw [← e]
    exact costN_congr fun n hn => hget n (inOrder_lt st n hn)
theorem least_holds {rooms : Nat} {st : List Stay} {ch : List (List Int)} {told : List (Option Int)} (hl : ch.length = st.length) : LeastOk rooms st ch told := fun m h => by
  obtain ⟨l, h1, _⟩ := least_ok hl h
  exact ⟨l, h1⟩
theorem many_nones {rooms : Nat} {st : List Stay} {ch : List (List Int)} {k : Nat} {m : Int} (h : manyO rooms st ch (nones k) = some m) : m = 0 := by
  obtain ⟨g, _, e⟩ := many_sound h
  rw [← e, cost_nones]
theorem plan_holds {h : List Int} {st : List Stay} {told : List (Option Int)} (h5 : h.length ≤ 5) (hl : told.length = st.length) : PlanOk h st told := fun m hm => by
  have e := many_nones hm
  subst e
  exact least_holds (chosen_ok (h := h) h5 hl).1 0 hm
/-! ### the told rooms -/
/-- the one list of choices is the other, less the rooms that are not told -/
def Tld (st : List Stay) (told : List (Option Int)) (c1 c2 : List (List Int)) : Prop := ∀ n, n < st.length → c1.getD n [] = (c2.getD n []).filter fun r => decide (offI (told.getD n none) r = 0)
theorem tld_many {rooms : Nat} {st : List Stay} {told : List (Option Int)} {c1 c2 : List (List Int)} {k : Nat} (h : Tld st told c1 c2) : manyO rooms st c1 (nones k) = some 0 ↔ manyO rooms st c2 told = some 0 := by
  constructor
  · intro q
    obtain ⟨g, hg, _⟩ := many_sound q
    have hz : ∀ n, n < st.length → g n ∈ c2.getD n [] ∧ offI (told.getD n none) (g n) = 0 := fun n hn => by
      have := hg.ch n hn
      rw [h n hn, List.mem_filter] at this
      exact ⟨this.1, of_decide_eq_true this.2⟩
    obtain ⟨m, h1, h2⟩ := many_complete told (hg.sub fun n hn => (hz n hn).1)
    have e : costA st told g = 0 := costN_of_zero fun n hn => (hz n (inOrder_lt st n hn)).2
    obtain ⟨g', _, e'⟩ := many_sound h1
    have := costN_nn told g' (inOrder st)
    have e' : costN told g' (inOrder st) = m := e'
    rw [h1]
    congr 1
    omega
  · intro q
    obtain ⟨g, hg, e⟩ := many_sound q
    have hz := costN_zero e
    obtain ⟨m, h1, h2⟩ := many_complete (nones k) (hg.sub (ch' := c1) fun n hn => by
      rw [h n hn, List.mem_filter]
      exact ⟨hg.ch n hn, decide_eq_true (hz n (inOrder_mem hn))⟩)
    rw [h1, many_nones h1]
theorem tld_narrow {st : List Stay} {told : List (Option Int)} {c1 c2 : List (List Int)} {i : Nat} {r : Int} (h : Tld st told c1 c2) (l1 : c1.length = st.length) (l2 : c2.length = st.length) (hi : i < st.length) (hr : offI (told.getD i none) r = 0) : Tld st told (narrowI c1 i r) (narrowI c2 i r) := fun n hn => by
  rw [narrow_get r (by omega), narrow_get r (by omega)]
  split
  · rename_i e
    subst e
    rw [List.filter_cons_of_pos (p := fun r => decide (offI (told.getD n none) r = 0)) (decide_eq_true hr)]
    rfl
  · exact h n hn
theorem tld_find {rooms : Nat} {st : List Stay} {told : List (Option Int)} {c1 c2 : List (List Int)} {k i : Nat} (h : Tld st told c1 c2) (l1 : c1.length = st.length) (l2 : c2.length = st.length) (hi : i < st.length) : ∀ rs : List Int,
    match (rs.map (narrowI c2 i)).find? (fun one => decide (manyO rooms st one told = some 0)) with
    | none => ((rs.filter fun r => decide (offI (told.getD i none) r = 0)).map (narrowI c1 i)).find? (fun one => decide (manyO rooms st one (nones k) = some 0)) = none
    | some d2 => ∃ r, offI (told.getD i none) r = 0 ∧ r ∈ rs ∧ d2 = narrowI c2 i r ∧ ((rs.filter fun r => decide (offI (told.getD i none) r = 0)).map (narrowI c1 i)).find? (fun one => decide (manyO rooms st one (nones k) = some 0)) = some (narrowI c1 i r)
  | [] => rfl
  | r :: rs => by
    have ih := tld_find (rooms := rooms) (k := k) h l1 l2 hi rs
    rw [List.map_cons, List.find?_cons]
    by_cases ho : offI (told.getD i none) r = 0
    · have iff := tld_many (rooms := rooms) (k := k) (tld_narrow h l1 l2 hi ho)
      rw [List.filter_cons_of_pos (p := fun r => decide (offI (told.getD i none) r = 0)) (decide_eq_true ho), List.map_cons, List.find?_cons]
      by_cases hm : manyO rooms st (narrowI c2 i r) told = some 0
      · rw [decide_eq_true hm, decide_eq_true (iff.mpr hm)]
        exact ⟨r, ho, List.mem_cons_self, rfl, rfl⟩
      · rw [decide_eq_false hm, decide_eq_false fun z => hm (iff.mp z)]
        revert ih
        dsimp only
        cases (rs.map (narrowI c2 i)).find? (fun one => decide (manyO rooms st one told = some 0)) with
        | none => exact fun z => z
        | some d2 =>
          rintro ⟨r', h1, h2, h3, h4⟩
          exact ⟨r', h1, List.mem_cons_of_mem _ h2, h3, h4⟩
    · have hm : ¬ manyO rooms st (narrowI c2 i r) told = some 0 := fun z => by
        obtain ⟨g, hg, e⟩ := many_sound z
        have h1 := costN_zero e i (inOrder_mem hi)
        have h2 := hg.ch i hi
        rw [narrow_get r (by omega), if_pos rfl] at h2
        rw [List.mem_singleton.mp h2] at h1
        exact ho h1
      rw [List.filter_cons_of_neg (by simpa using ho), decide_eq_false hm]
      revert ih
      dsimp only
      cases (rs.map (narrowI c2 i)).find? (fun one => decide (manyO rooms st one told = some 0)) with
      | none => exact fun z => z
      | some d2 =>
        rintro ⟨r', h1, h2, h3, h4⟩
        exact ⟨r', h1, List.mem_cons_of_mem _ h2, h3, h4⟩
theorem tld_go {rooms : Nat} {st : List Stay} {told : List (Option Int)} {q : Nat} : ∀ (k i : Nat) (c1 c2 : List (List Int)), i + k = st.length → Tld st told c1 c2 → c1.length = st.length → c2.length = st.length → ∀ d2, leastGo rooms st told 0 (List.range' i k) c2 = some d2 →
    ∃ d1, leastGo rooms st (nones q) 0 (List.range' i k) c1 = some d1 ∧ Tld st told d1 d2 ∧ d1.length = st.length ∧ d2.length = st.length
  | 0, i, c1, c2, e, h, l1, l2, d2, hd => by
    have hd : some c2 = some d2 := hd
    cases hd
    exact ⟨c1, rfl, h, l1, l2⟩
  | k + 1, i, c1, c2, e, h, l1, l2, d2, hd => by
    have hi : i < st.length := by omega
    rw [List.range'_succ] at hd ⊢
    unfold leastGo at hd ⊢
    have hf := tld_find (rooms := rooms) (k := q) h l1 l2 hi (c2.getD i [])
    rw [h i hi]
    revert hd hf
    cases ((c2.getD i []).map (narrowI c2 i)).find? (fun one => decide (manyO rooms st one told = some 0)) with
    | none => intro hd; cases hd
    | some e2 =>
      rintro hd ⟨r, h1, h2, rfl, h4⟩
      rw [h4]
      exact tld_go k (i + 1) _ _ (by omega) (tld_narrow h l1 l2 hi h1) (by rw [narrow_len (by omega)]; exact l1) (by rw [narrow_len (by omega)]; exact l2) d2 hd
theorem chosen_tld {h : List Int} {st : List Stay} {told : List (Option Int)} (hl : told.length = st.length) : Tld st told (chosenL h st told) (freeL h st) := fun n hn => by
  unfold chosenL freeL
  rw [List.getD_eq_getElem?_getD, List.getD_eq_getElem?_getD, List.getD_eq_getElem?_getD, List.getElem?_map, List.getElem?_zipWith, List.getElem?_eq_getElem hn, List.getElem?_eq_getElem (by omega : n < told.length)]
  show (roomsOf h st[n]).filter _ = (roomsOf h st[n]).filter _
  refine List.filter_congr fun r _ => ?_
  show _ = decide (offI told[n] r = 0)
  cases told[n] with
  | none => simp [offI]
  | some o =>
    by_cases e : o = r
    · simp [offI, e]
    · simp [offI, e]
theorem plan_iff {h : List Int} {st : List Stay} {told : List (Option Int)} (hl : told.length = st.length) : planWith h st told = none ∧ manyO h.length st (freeL h st) told ≠ some 0 ∨ ∃ l, planWith h st told = some l ∧ manyO h.length st (freeL h st) told = some 0 ∧ leastO h.length st (freeL h st) told 0 = some l := by
  have t := chosen_tld (h := h) hl
  have iff := tld_many (rooms := h.length) (k := st.length) t
  have l1 : (chosenL h st told).length = st.length := by unfold chosenL; rw [List.length_zipWith]; omega
  have l2 : (freeL h st).length = st.length := by unfold freeL; rw [List.length_map]
  unfold planWith
  cases hm : manyO h.length st (chosenL h st told) (nones st.length) with
  | none =>
    left
    refine ⟨rfl, fun z => ?_⟩
    rw [iff.mpr z] at hm
    cases hm
  | some m =>
    have e := many_nones hm
    subst e
    right
    have hm2 := iff.mp hm
    obtain ⟨r1, q1, _⟩ := least_ok l1 hm
    obtain ⟨r2, q2, _⟩ := least_ok l2 hm2
    refine ⟨r1, q1, hm2, ?_⟩
    rw [q2]
    unfold leastO at q1 q2
    rw [range_range'] at q1 q2
    cases hg2 : leastGo h.length st told 0 (List.range' 0 st.length) (freeL h st) with
    | none => rw [hg2] at q2; cases q2
    | some d2 =>
      obtain ⟨d1, hg1, td, e1, e2⟩ := tld_go (q := st.length) st.length 0 _ _ (by omega) t l1 l2 d2 hg2
      rw [hg1] at q1
      rw [hg2] at q2
      dsimp only at q1 q2
      obtain ⟨f2, g2, n2, _⟩ := leastGo_ok (told := told) l2 st.length 0 (freeL h st) (by omega) ⟨rfl, fun _ _ z => z, fun n hn => absurd hn (Nat.not_lt_zero n)⟩ hm2
      rw [hg2] at g2
      cases g2
      obtain ⟨f1, g1, n1, _⟩ := leastGo_ok (told := nones st.length) l1 st.length 0 (chosenL h st told) (by omega) ⟨rfl, fun _ _ z => z, fun n hn => absurd hn (Nat.not_lt_zero n)⟩ hm
      rw [hg1] at g1
      cases g1
      have ed : d1 = d2 := by
        refine List.ext_getElem (by omega) fun n hn1 hn2 => ?_
        obtain ⟨x1, y1⟩ := n1.one n (by omega)
        obtain ⟨x2, y2⟩ := n2.one n (by omega)
        have z := td n (by omega)
        rw [y1, y2] at z
        have x : x1 = x2 := by
          have : x1 ∈ [x2].filter fun r => decide (offI (told.getD n none) r = 0) := by rw [← z]; simp
          exact List.mem_singleton.mp (List.mem_filter.mp this).1
        rw [List.getD_eq_getElem?_getD, List.getElem?_eq_getElem hn1] at y1
        rw [List.getD_eq_getElem?_getD, List.getElem?_eq_getElem hn2] at y2
        have y1 : d1[n] = [x1] := y1
        have y2 : d2[n] = [x2] := y2
        rw [y1, y2, x]
      rw [ed] at q1
      rw [← q1, ← q2]
end N

namespace N
theorem inOrder_sorted (st : List Stay) : (inOrder st).Pairwise fun a b => (stOf st a).2.1 ≤ (stOf st b).2.1 := by
  have h := PySem.W.sort_pairwise (le := PySem.W.dataLe false (ordKey st)) (PySem.W.sortLe_total _ _ _) (List.range st.length)
  unfold inOrder
  refine h.imp fun {a b} q => ?_
  have e : PySem.W.dataLe false (ordKey st) = fun p q => decide ((stOf st p).2.1 < (stOf st q).2.1 ∨ ((stOf st p).2.1 = (stOf st q).2.1 ∧ (p : Int) ≤ (q : Int))) := PySem.W.dataLe_ii (fun n => (stOf st n).2.1) (fun (n : Nat) => (n : Int))
  rw [e] at q
  have q := of_decide_eq_true q
  omega
def endOf (st : List Stay) (n : Nat) : Int := (stOf st n).2.1 + (stOf st n).2.2
theorem next_get (s : Stay) (free : List Int) (r : Int) (x : Nat) : (nextK s free r).getD x 0 = if x = r.toNat ∧ x < free.length then s.2.1 + s.2.2 else if s.2.1 < free.getD x 0 then free.getD x 0 else 0 := by
  unfold nextK takenI
  simp only [List.getD_eq_getElem?_getD, List.getElem?_set, List.length_map, List.getElem?_map]
  by_cases e : r.toNat = x
  · subst e
    rw [if_pos rfl]
    by_cases l : r.toNat < free.length
    · rw [if_pos l, if_pos ⟨rfl, l⟩]
      rfl
    · rw [if_neg l, if_neg (fun z => l z.2), List.getElem?_eq_none (by omega)]
      simp
  · rw [if_neg e, if_neg (fun z => e z.1.symm)]
    cases q : free[x]? with
    | none => simp
    | some v => rfl
theorem next_len (s : Stay) (free : List Int) (r : Int) : (nextK s free r).length = free.length := takenI_len _ _ _ _
/-- stays in one room one after another -/
def Aft (st : List Stay) (g : Nat → Int) (a b : Nat) : Prop := (g a).toNat = (g b).toNat → endOf st a ≤ (stOf st b).2.1
theorem feas_apart {st : List Stay} {g : Nat → Int} : ∀ {ns : List Nat} {free : List Int} {ps : List Nat} {F : Int}, (∀ n ∈ ns, (g n).toNat < free.length) → (ns.Pairwise fun a b => (stOf st a).2.1 ≤ (stOf st b).2.1) → (∀ n ∈ ns, F ≤ (stOf st n).2.1) →
    (∀ i ∈ ps, endOf st i ≤ F ∨ endOf st i ≤ free.getD (g i).toNat 0) → Feas st g ns free → (∀ i ∈ ps, ∀ n ∈ ns, Aft st g i n) ∧ ns.Pairwise (Aft st g)
  | [], free, ps, F, _, _, _, _, _ => ⟨fun i _ n hn => by simp at hn, .nil⟩
  | n :: ns, free, ps, F, hr, hs, hF, hp, hf => by
    unfold Feas at hf
    obtain ⟨s1, s2⟩ := List.pairwise_cons.mp hs
    have hn : ∀ i ∈ ps, Aft st g i n := fun i hi e => by
      rcases hp i hi with q | q
      · exact Int.le_trans q (hF n List.mem_cons_self)
      · rw [e] at q
        exact Int.le_trans q hf.1
    have ih := feas_apart (ns := ns) (free := nextK (stOf st n) free (g n)) (ps := n :: ps) (F := (stOf st n).2.1) (fun m hm => by rw [next_len]; exact hr m (List.mem_cons_of_mem _ hm)) s2 s1 (fun i hi => by
      rw [next_get]
      rcases List.mem_cons.mp hi with e | e
      · subst e
        right
        rw [if_pos ⟨rfl, hr i List.mem_cons_self⟩]
        exact Int.le_refl _
      · by_cases z : (g i).toNat = (g n).toNat
        · left
          exact hn i e z
        · rw [if_neg fun y => z y.1]
          rcases hp i e with q | q
          · left
            exact Int.le_trans q (hF n List.mem_cons_self)
          · split
            · exact .inr q
            · left
              omega) hf.2
    refine ⟨fun i hi m hm => ?_, List.pairwise_cons.mpr ⟨fun m hm => ih.1 n List.mem_cons_self m hm, ih.2⟩⟩
    rcases List.mem_cons.mp hm with e | e
    · rw [e]; exact hn i hi
    · exact ih.1 i (List.mem_cons_of_mem _ hi) m e
theorem pair_mem {α : Type} {R : α → α → Prop} : ∀ {l : List α}, l.Pairwise R → ∀ a ∈ l, ∀ b ∈ l, a ≠ b → R a b ∨ R b a
  | [], _, a, ha, _, _, _ => by simp at ha
  | x :: l, h, a, ha, b, hb, ne => by
    obtain ⟨h1, h2⟩ := List.pairwise_cons.mp h
    rcases List.mem_cons.mp ha with e | e
    · rcases List.mem_cons.mp hb with f | f
      · exact absurd (e.trans f.symm) ne
      · rw [e]; exact .inl (h1 b f)
    · rcases List.mem_cons.mp hb with f | f
      · rw [f]; exact .inr (h1 a e)
      · exact pair_mem h2 a e b f ne
theorem roomsOf_may {h : List Int} {s : Stay} {r : Int} (q : r ∈ roomsOf h s) : (0 ≤ r ∧ r < (h.length : Int)) ∧ s.1 ≤ h.getD r.toNat 0 := by
  refine ⟨(roomsOf_ok (h := h) s).2 r q, ?_⟩
  unfold roomsOf at q
  exact of_decide_eq_true (List.mem_filter.mp q).2
theorem freeL_get {h : List Int} {st : List Stay} {n : Nat} (hn : n < st.length) : (freeL h st).getD n [] = roomsOf h (stOf st n) := by
  unfold freeL stOf
  simp only [List.getD_eq_getElem?_getD, List.getElem?_map, List.getElem?_eq_getElem hn]
  rfl
theorem shows_of {h : List Int} {st : List Stay} {l : List Int} (hl : l.length = st.length) (hc : ∀ n, n < st.length → l.getD n 0 ∈ (freeL h st).getD n []) (hf : Feas st (fun n => l.getD n 0) (inOrder st) (List.replicate h.length 0)) : Shows h st l := by
  have hm : ∀ n, n < st.length → (0 ≤ l.getD n 0 ∧ l.getD n 0 < (h.length : Int)) ∧ (stOf st n).1 ≤ h.getD (l.getD n 0).toNat 0 := fun n hn => by
    have := hc n hn
    rw [freeL_get hn] at this
    exact roomsOf_may this
  have hap := (feas_apart (ps := []) (F := (match inOrder st with | [] => 0 | n :: _ => (stOf st n).2.1)) (fun n hn => by
      rw [List.length_replicate]
      have := (hm n (inOrder_lt st n hn)).1
      show (l.getD n 0).toNat < h.length
      omega) (inOrder_sorted st) (fun n hn => by
        have hs := inOrder_sorted st
        revert hn hs
        cases inOrder st with
        | nil => intro hn; simp at hn
        | cons m r =>
          intro hn hs
          rcases List.mem_cons.mp hn with e | e
          · rw [e]
            exact Int.le_refl _
          · exact (List.pairwise_cons.mp hs).1 n e) (fun i hi => by simp at hi) hf).2
  refine ⟨hl, fun r hr => ?_, fun p hp => ?_, fun i j hij hj e => ?_⟩
  · obtain ⟨n, hn, e⟩ := List.mem_iff_getElem.mp hr
    have := (hm n (by omega)).1
    rw [List.getD_eq_getElem?_getD, List.getElem?_eq_getElem hn] at this
    rw [← e]
    exact this
  · obtain ⟨n, hn, e⟩ := List.mem_iff_getElem.mp hp
    rw [List.length_zip] at hn
    have := (hm n (by omega)).2
    unfold stOf at this
    rw [List.getD_eq_getElem?_getD, List.getElem?_eq_getElem (by omega), List.getD_eq_getElem?_getD, List.getD_eq_getElem?_getD, List.getElem?_eq_getElem (by omega : n < l.length)] at this
    rw [List.getElem_zip] at e
    rw [← e, List.getD_eq_getElem?_getD]
    exact this
  · have hne : i ≠ j := by omega
    have q := pair_mem hap i (inOrder_mem (by omega)) j (inOrder_mem hj) hne
    unfold meetB
    rw [Bool.and_eq_false_iff]
    unfold Aft endOf stOf at q
    rcases q with q | q
    · left
      have := q (by show (l.getD i 0).toNat = (l.getD j 0).toNat; rw [e])
      rw [decide_eq_false_iff_not]
      omega
    · right
      have := q (by show (l.getD j 0).toNat = (l.getD i 0).toNat; rw [e])
      rw [decide_eq_false_iff_not]
      omega
/-- what plan_with and nearest say together -/
theorem plan_near {h : List Int} {st : List Stay} {told : List (Option Int)} (hl : told.length = st.length) :
    (planWith h st told = none ∧ (nearO h st told = none ∨ ∃ m r, nearO h st told = some (m, r) ∧ 0 < m)) ∨
    ∃ l, planWith h st told = some l ∧ nearO h st told = some (0, l) ∧ Shows h st l ∧ ∀ n, n < st.length → ∀ o, told.getD n none = some o → l.getD n 0 = o := by
  have l2 : (freeL h st).length = st.length := by unfold freeL; rw [List.length_map]
  rcases plan_iff (h := h) hl with ⟨p, m⟩ | ⟨l, p, m, q⟩
  · left
    refine ⟨p, ?_⟩
    unfold nearO
    cases e : manyO h.length st (freeL h st) told with
    | none => exact .inl rfl
    | some k =>
      right
      refine ⟨k, _, rfl, ?_⟩
      obtain ⟨g, _, z⟩ := many_sound e
      have := costN_nn told g (inOrder st)
      have z : costN told g (inOrder st) = k := z
      rw [e] at m
      have : k ≠ 0 := fun y => m (by rw [y])
      omega
  · right
    obtain ⟨l', q1, q2, q3, q4, q5⟩ := least_ok l2 m
    rw [q] at q1
    cases q1
    refine ⟨l, p, ?_, shows_of q2 q3 q4, fun n hn o ho => ?_⟩
    · unfold nearO
      rw [m]
      dsimp only
      rw [q]
      rfl
    · have := costN_zero q5 n (inOrder_mem hn)
      rw [ho] at this
      unfold offI at this
      dsimp only at this
      split at this
      · rename_i z
        exact z.symm
      · cases this
theorem nones_plan {h : List Int} {st : List Stay} (hn : planWith h st (nones st.length) = none) : ∃ lot, (lotsOf st.length).find? (fun lot => !haveB h st lot) = some lot := by
  cases e : (lotsOf st.length).find? (fun lot => !haveB h st lot) with
  | some lot => exact ⟨lot, rfl⟩
  | none =>
    exfalso
    have hfull : ∀ n, ((List.range n).map fun (i : Nat) => (i : Int)) ∈ lotsGo n := by
      intro n
      induction n with
      | zero => simp [lotsGo]
      | succ n ih =>
        rw [lotsGo_succ, List.range_succ, List.map_append]
        exact List.mem_append_right _ (List.mem_map.mpr ⟨_, ih, rfl⟩)
    have h1 := List.find?_eq_none.mp e _ ((lotsOf_mem _ _).mpr (hfull st.length))
    have hs : lotStays st ((List.range st.length).map fun (i : Nat) => (i : Int)) = st := by
      unfold lotStays
      rw [List.map_map]
      refine List.ext_getElem (by simp) fun n h1 h2 => ?_
      simp
      rw [List.getElem?_eq_getElem h2]
      rfl
    have hc : chosenL h st (nones st.length) = freeL h st := by
      refine List.ext_getElem ?_ fun n h1 h2 => ?_
      · unfold chosenL freeL
        rw [List.length_zipWith, List.length_map, nones_len, Nat.min_self]
      · have t := chosen_tld (h := h) (st := st) (told := nones st.length) (nones_len _) n (by unfold freeL at h2; rw [List.length_map] at h2; exact h2)
        rw [nones_get] at t
        rw [List.getD_eq_getElem?_getD, List.getElem?_eq_getElem h1, List.getD_eq_getElem?_getD, List.getElem?_eq_getElem h2] at t
        have t : (chosenL h st (nones st.length))[n] = ((freeL h st)[n]).filter fun r => decide (offI none r = 0) := t
        rw [t]
        exact List.filter_eq_self.mpr fun _ _ => rfl
    unfold haveB at h1
    rw [hs, List.length_map, List.length_range] at h1
    unfold planWith at hn
    rw [hc] at hn
    cases hm : manyO h.length st (freeL h st) (nones st.length) with
    | none => rw [hm] at h1; simp at h1
    | some m =>
      rw [hm] at hn
      dsimp only at hn
      have := many_nones hm
      subst this
      obtain ⟨r, hr⟩ := least_holds (rooms := h.length) (ch := freeL h st) (told := nones st.length) (by unfold freeL; rw [List.length_map]) 0 hm
      rw [hr] at hn
      cases hn
end N

namespace N
def Stays (st : List Stay) : Prop := ∀ s ∈ st, StayOk s
theorem spare_app (h : List Int) (st : List Stay) (s : Stay) (n k : Int) : spare h (st ++ [s]) n k = spare h st n k - (if sleptBy s n = true ∧ k ≤ s.1 then 1 else 0) := by
  unfold spare kindsAt fromK
  rw [List.filter_append, List.map_append, List.filter_append, List.length_append]
  by_cases h1 : sleptBy s n = true
  · by_cases h2 : k ≤ s.1
    · rw [if_pos ⟨h1, h2⟩]
      simp [h1, h2]
      omega
    · rw [if_neg fun z => h2 z.2]
      simp [h1, h2]
  · rw [if_neg fun z => h1 z.1]
    simp [h1]
theorem spare_sub {h : List Int} {st st' : List Stay} (q : st'.Sublist st) (n k : Int) : spare h st n k ≤ spare h st' n k := by
  unfold spare kindsAt fromK
  have := (((q.filter fun s => sleptBy s n).map (·.1)).filter fun o => decide (k ≤ o)).length_le
  omega
theorem fitsB_iff {h : List Int} {st : List Stay} (hs : Stays st) : fitsB h st = true ↔ ∀ n k : Int, k ∈ kinds3 → 0 ≤ spare h st n k := by
  unfold fitsB
  rw [List.all_eq_true]
  constructor
  · intro q n k hk
    by_cases hn : n ∈ nightsOf st
    · have := q n hn
      unfold overK at this
      rw [Option.isNone_iff_eq_none, List.find?_eq_none] at this
      have := this k hk
      simp at this
      exact this
    · have he : kindsAt st n = [] := by
        unfold kindsAt
        rw [List.map_eq_nil_iff, List.filter_eq_nil_iff]
        intro s hm z
        refine hn ((nightsOf_mem (fun s hs' => ?_) n).mpr (List.any_eq_true.mpr ⟨s, hm, z⟩))
        have := hs s hs'
        unfold StayOk at this
        omega
      unfold spare
      rw [he]
      unfold fromK
      simp
  · intro q n _
    unfold overK
    rw [Option.isNone_iff_eq_none, List.find?_eq_none]
    intro k hk
    have := q n k hk
    simp
    exact this
theorem fits_nil (h : List Int) : fitsB h [] = true := rfl
theorem fits_sub {h : List Int} {st st' : List Stay} (q : st'.Sublist st) (hs : Stays st) (f : fitsB h st = true) : fitsB h st' = true := by
  rw [fitsB_iff hs] at f
  rw [fitsB_iff fun s hm => hs s (q.subset hm)]
  intro n k hk
  have h1 := f n k hk
  have h2 := spare_sub (h := h) q n k
  omega
theorem stays_app {st : List Stay} {s : Stay} (hs : Stays st) (h : StayOk s) : Stays (st ++ [s]) := fun x hx => by
  rcases List.mem_append.mp hx with q | q
  · exact hs x q
  · rw [List.mem_singleton.mp q]
    exact h
theorem mem_kinds3 {k : Int} : k ∈ kinds3 ↔ 1 ≤ k ∧ k ≤ 3 := by
  unfold kinds3
  simp
  omega
/-- rooms are left where one more stay of one night fits -/
theorem left_iff {h : List Int} {st : List Stay} {k n : Int} (hs : Stays st) (hk : 1 ≤ k ∧ k ≤ 3) (hn : 0 ≤ n ∧ n ≤ 20) (f : fitsB h st = true) : 0 < leftI h st n k ↔ fitsB h (st ++ [(k, n, 1)]) = true := by
  have h1 : StayOk (k, n, 1) := ⟨hk.1, hk.2, hn.1, hn.2, by show (1 : Int) ≤ 1; omega, by show (1 : Int) ≤ 8; omega⟩
  rw [fitsB_iff (stays_app hs h1)]
  rw [fitsB_iff hs] at f
  have f1 := f n 1 (by decide)
  have f2 := f n 2 (by decide)
  have f3 := f n 3 (by decide)
  have hmin : 0 ≤ minL (spareL h st n) := by
    unfold spareL kinds3
    simp only [List.map_cons, List.map_nil, minL]
    omega
  have hsl : sleptBy (k, n, 1) n = true := by
    unfold sleptBy
    rw [decide_eq_true (Int.le_refl n), decide_eq_true (by show n < n + 1; omega)]
    rfl
  have hl : leftI h st n k = max 0 (minL ((spareL h st n).take k.toNat)) := by
    unfold leftI
    rw [if_pos hmin]
  have key : 0 < leftI h st n k ↔ ∀ j : Int, 1 ≤ j → j ≤ k → 0 < spare h st n j := by
    rw [hl]
    have hk3 : k = 1 ∨ k = 2 ∨ k = 3 := by omega
    rcases hk3 with e | e | e
    · subst e
      have : minL ((spareL h st n).take (1 : Int).toNat) = spare h st n 1 := rfl
      rw [this]
      constructor
      · intro q j h1 h2
        have : j = 1 := by omega
        rw [this]
        omega
      · intro q
        have := q 1 (by omega) (by omega)
        omega
    · subst e
      have : minL ((spareL h st n).take (2 : Int).toNat) = min (spare h st n 1) (spare h st n 2) := rfl
      rw [this]
      constructor
      · intro q j h1 h2
        have : j = 1 ∨ j = 2 := by omega
        rcases this with e | e <;> rw [e] <;> omega
      · intro q
        have := q 1 (by omega) (by omega)
        have := q 2 (by omega) (by omega)
        omega
    · subst e
      have : minL ((spareL h st n).take (3 : Int).toNat) = min (spare h st n 1) (min (spare h st n 2) (spare h st n 3)) := rfl
      rw [this]
      constructor
      · intro q j h1 h2
        have : j = 1 ∨ j = 2 ∨ j = 3 := by omega
        rcases this with e | e | e <;> rw [e] <;> omega
      · intro q
        have := q 1 (by omega) (by omega)
        have := q 2 (by omega) (by omega)
        have := q 3 (by omega) (by omega)
        omega
  rw [key]
  constructor
  · intro q m j hj
    rw [mem_kinds3] at hj
    rw [spare_app]
    have fm := f m j (mem_kinds3.mpr hj)
    split
    · rename_i z
      have z1 := z.1
      unfold sleptBy at z1
      rw [Bool.and_eq_true] at z1
      have a1 : n ≤ m := of_decide_eq_true z1.1
      have a2 : m < n + 1 := of_decide_eq_true z1.2
      have : m = n := by omega
      subst this
      have z2 : j ≤ k := z.2
      have := q j hj.1 z2
      omega
    · omega
  · intro q j h1 h2
    have := q n j (mem_kinds3.mpr ⟨h1, by omega⟩)
    rw [spare_app, if_pos ⟨hsl, h2⟩] at this
    omega
/-- each stay that fits has a room that may hold it -/
theorem room_of {h : List Int} {st : List Stay} {s : Stay} (hs : Stays st) (f : fitsB h st = true) (hm : s ∈ st) : ∃ r, r ∈ roomsOf h s := by
  rw [fitsB_iff hs] at f
  have so := hs s hm
  have hsl : sleptBy s s.2.1 = true := by
    unfold sleptBy
    have := so
    unfold StayOk at this
    rw [decide_eq_true (Int.le_refl _), decide_eq_true (by omega)]
    rfl
  have h1 := f s.2.1 s.1 (mem_kinds3.mpr ⟨so.1, so.2.1⟩)
  have h2 : 0 < fromK (kindsAt st s.2.1) s.1 := by
    unfold fromK
    have : s.1 ∈ (kindsAt st s.2.1).filter fun o => decide (s.1 ≤ o) := by
      rw [List.mem_filter]
      refine ⟨?_, by simp⟩
      unfold kindsAt
      exact List.mem_map.mpr ⟨s, List.mem_filter.mpr ⟨hm, hsl⟩, rfl⟩
    have := List.length_pos_of_mem this
    omega
  have h3 : 0 < fromK h s.1 := by
    unfold spare at h1
    omega
  unfold fromK at h3
  have h4 : 0 < (h.filter fun o => decide (s.1 ≤ o)).length := by omega
  obtain ⟨x, hx⟩ := List.exists_mem_of_length_pos h4
  rw [List.mem_filter] at hx
  obtain ⟨i, hi, e⟩ := List.mem_iff_getElem.mp hx.1
  refine ⟨(i : Int), ?_⟩
  unfold roomsOf
  rw [List.mem_filter]
  refine ⟨List.mem_map.mpr ⟨i, List.mem_range.mpr hi, rfl⟩, ?_⟩
  rw [Int.toNat_natCast, List.getD_eq_getElem?_getD, List.getElem?_eq_getElem hi]
  have := hx.2
  rw [← e] at this
  exact this
theorem begins_mem {h : List Int} {st : List Stay} {k m f : Int} : f ∈ beginsL h st k m ↔ (0 ≤ f ∧ f ≤ 20) ∧ fitsB h (st ++ [(k, f, m)]) = true := by
  unfold beginsL
  rw [List.mem_filter, List.mem_map]
  constructor
  · rintro ⟨⟨i, hi, e⟩, q⟩
    rw [List.mem_range] at hi
    exact ⟨by omega, q⟩
  · rintro ⟨⟨h1, h2⟩, q⟩
    exact ⟨⟨f.toNat, List.mem_range.mpr (by omega), by omega⟩, q⟩
end N

namespace N
open PySem L2 LamX
/-! ### what is written: the objects of M may change, all else is kept -/
structure Gm (M : Addr → Prop) (T : Tbl) (H H' : Hp) : Prop where
  kp : ∀ b o, H b = some o → (∀ ps, o ≠ .tbl ps) → ¬ M b → H' b = some o
  tb : Tabs T H → Tabs T H'
  mt : Sok M H → Sok M H'
section
variable {K : PySem.W.Frag} {T : Tbl} {M S : Addr → Prop} {H H' H2 : Hp} {σ : L2.St} {δ : Sl} {a : Addr}
theorem Gm.of (g : Gr T H H') : Gm M T H H' := ⟨fun b o e n _ => g.1 b o e n, g.2, fun s => s.mono g⟩
theorem Gm.refl : Gm M T H H := Gm.of (Gr.refl H)
theorem Gm.trans (a : Gm M T H H') (b : Gm M T H' H2) : Gm M T H H2 := ⟨fun c o e n h => b.kp c o (a.kp c o e n h) n h, fun t => b.tb (a.tb t), fun s => b.mt (a.mt s)⟩
theorem Gm.le {M' : Addr → Prop} (h : ∀ b, M b → M' b) (s : Sok M' H) (g : Gm M T H H') : Gm M' T H H' := ⟨fun b o e n q => g.kp b o e n fun z => q (h b z), g.tb, fun s' b hb => by
  by_cases q : M b
  · exact g.mt (fun c hc => s c (h c hc)) b q
  · obtain ⟨o, e, m⟩ := s b hb
    exact ⟨o, g.kp b o e m.ntbl q, m⟩⟩
theorem Tabs.mutM {o u : HO} (hp : H a = some o) (m : Mt o) (t : Tabs T H) : Tabs T (upd H a u) := fun q hq => by
  obtain ⟨ps, h1, h2, h3⟩ := t q hq
  have nP : q.1 ≠ a := fun z => by
    rw [z, hp] at h1
    exact m.ntbl ps (Option.some.inj h1)
  refine ⟨ps, by rw [upd_ne nP]; exact h1, h2, fun pos cv hc => ?_⟩
  obtain ⟨c, e1, e2⟩ := h3 pos cv hc
  have nc : c ≠ a := fun z => by
    rw [z, hp] at e2
    have e3 := Option.some.inj e2
    rw [e3] at m
    exact m
  exact ⟨c, e1, by rw [upd_ne nc]; exact e2⟩
theorem Gm.upd {o u : HO} (hM : M a) (hp : H a = some o) (m : Mt o) (m2 : Mt u) : Gm M T H (L2.upd H a u) := ⟨fun b v e n q => by
    rw [upd_ne fun z => q (by rw [z]; exact hM)]
    exact e, Tabs.mutM hp m, fun s b hb => by
    by_cases z : b = a
    · rw [z]; exact ⟨u, upd_same, m2⟩
    · rw [upd_ne z]; exact s b hb⟩
theorem Rd.gm {o : HO} (g : Gm M T H H') (hM : ¬ M a) (n : ∀ ps, o ≠ .tbl ps) (h : Rd H a o) : Rd H' a o := by
  rcases h with h | ⟨q, h⟩
  · exact .inl (g.kp a _ h n hM)
  · exact .inr ⟨q, g.kp a _ h (fun ps z => by cases z) hM⟩
theorem SL.gm {xs : List V} (g : Gm M T H H') (hM : ∀ b, M b → S b) (h : SL K S H a xs) : SL K S H' a xs := by
  rcases h with ⟨n, h⟩ | h
  · exact .inl ⟨n, Rd.gm g (fun z => n (hM a z)) (fun ps z => by cases z) h⟩
  · exact .inr h
theorem SqT.gm {xs : List V} (g : Gm M T H H') (s : Sok M H) (h : SqT K H a xs) : SqT K H' a xs := by
  rcases h with h | h
  · refine .inl (Rd.gm g (fun z => ?_) (fun ps z => by cases z) h)
    obtain ⟨o, e, m⟩ := s a z
    rcases h with h | ⟨q, h⟩ <;> (rw [e] at h; rw [Option.some.inj h] at m; exact m)
  · exact .inr h
theorem Rp.gm (g : Gm M T H H') (hM : ∀ b, M b → S b) (s : Sok M H) {v : V} {d : PyData} (h : Rp K S H v d) : Rp K S H' v d := h.keep (fun _ _ => SL.gm g hM) fun _ _ => SqT.gm g s
theorem RpA.gm (g : Gm M T H H') (hM : ∀ b, M b → S b) (s : Sok M H) {v : List V} {d : List PyData} (h : RpA K S H v d) : RpA K S H' v d := h.keep (fun _ _ => SL.gm g hM) fun _ _ => SqT.gm g s
/-- no instance is told -/
def stbE : Option E → Bool
  | some (.ob _ _ _ _) => false
  | _ => true
def stb (δ : Sl) : Bool := δ.all stbE
theorem RE.gm (g : Gm M T H H') (hM : ∀ b, M b → S b) (s : Sok M H) {v : V} {e : E} (he : stbE (some e) = true) (h : RE K S H v e) : RE K S H' v e := by
  cases e with
  | d p => exact Rp.gm g hM s h
  | rf a => exact h
  | ob x C fds nm => cases he
theorem Sok.gm (g : Gm M T H H') (hM : ∀ b, M b → S b) (s : Sok S H) : Sok S H' := (Gm.le hM s g).mt s
theorem Ad.gm (h : Ad K T S H σ δ) (hs : stb δ = true) (hM : ∀ b, M b → S b) (g : Gm M T H H') : Ad K T S H' σ δ :=
  ⟨h.sok.gm g hM, g.tb h.tab, ⟨h.sd.len, fun i e q => by
    obtain ⟨v, e1, e2⟩ := h.sd.at' i e q
    refine ⟨v, e1, RE.gm g hM (fun b hb => h.sok b (hM b hb)) ?_ e2⟩
    unfold stb at hs
    rw [List.all_eq_true] at hs
    exact hs _ (List.mem_of_getElem? q)⟩⟩
/-- the same objects, fewer of them to be written -/
theorem Ad.less {S' : Addr → Prop} (h : Ad K T S H σ δ) (hs : ∀ b, S' b → S b) : Ad K T S' H σ δ := ⟨fun b hb => h.sok b (hs b hb), h.tab, h.sd.more fun b hb => .inl (hs b hb)⟩
/-- more is known of a slot -/
theorem Ad.know (h : Ad K T S H σ δ) (i : Nat) {v : V} {e : E} (hv : σ[i]? = some (some v)) (r : RE K S H v e) : Ad K T S H σ (δ.set i (some e)) := ⟨h.sok, h.tab, by rw [List.length_set]; exact h.sd.len, fun j f q => by
  by_cases hj : i = j
  · subst hj
    have hl : i < δ.length := by
      have := (List.getElem?_eq_some_iff.mp q).1
      rwa [List.length_set] at this
    rw [List.getElem?_set_self hl] at q
    cases q
    exact ⟨v, hv, r⟩
  · rw [List.getElem?_set_ne hj] at q
    exact h.sd.at' j f q⟩
theorem Ad.rf (h : Ad K T S H σ δ) (i : Nat) (hi : δ[i]? = some (some (.rf a))) : σ[i]? = some (some (.ref a)) := by
  obtain ⟨v, e1, e2⟩ := h.sd.at' i _ hi
  have e2 : v = .ref a := e2
  rw [e1, e2]
end
/-! ### arithmetic -/
section
variable {T : Tbl} {X : Cx} {δ : Sl} {a b : Expr} {i j : Int} {pos : Pos}
theorem ev_modI (h1 : Ev T X a δ (.d (.int i))) (h2 : Ev T X b δ (.d (.int j))) (hj : 0 < j) : Ev T X (.BinOp a .Mod b pos) δ (.d (.int (i % j))) :=
  ev_op op_mod h1 h2 fun S H v w _ _ r1 r2 Q k => ⟨i, j, Rp.int_inv r1, Rp.int_inv r2, hj, k _ H (Gr.refl H) (Rp.int _)⟩
theorem ev_divI (h1 : Ev T X a δ (.d (.int i))) (h2 : Ev T X b δ (.d (.int j))) (hj : CDivW i j) : Ev T X (.BinOp a .FloorDiv b pos) δ (.d (.int (i / j))) :=
  ev_op op_fdivW h1 h2 fun S H v w _ _ r1 r2 Q k => ⟨i, j, Rp.int_inv r1, Rp.int_inv r2, hj, k _ H (Gr.refl H) (Rp.int _)⟩
theorem ev_mulI (h1 : Ev T X a δ (.d (.int i))) (h2 : Ev T X b δ (.d (.int j))) (hj : CMulW i j) : Ev T X (.BinOp a .Mult b pos) δ (.d (.int (i * j))) :=
  ev_op op_mulW h1 h2 fun S H v w _ _ r1 r2 Q k => ⟨i, j, Rp.int_inv r1, Rp.int_inv r2, hj, k _ H (Gr.refl H) (Rp.int _)⟩
theorem ev_powI (h1 : Ev T X a δ (.d (.int i))) (h2 : Ev T X b δ (.d (.int j))) (hj : CPow i j) : Ev T X (.BinOp a .Pow b pos) δ (.d (.int (i ^ j.toNat))) :=
  ev_op op_pow h1 h2 fun S H v w _ _ r1 r2 Q k => ⟨i, j, Rp.int_inv r1, Rp.int_inv r2, hj, k _ H (Gr.refl H) (Rp.int _)⟩
end
theorem mulW {i j : Int} (hi : -(2 ^ 100) < i ∧ i < 2 ^ 100) (hj : -(2 ^ 100) < j ∧ j < 2 ^ 100) : CMulW i j := wide_mul (a := 100) (b := 100) (by omega) (by omega) (by decide) (by decide) (by decide)
/-! ### the pen -/
def Pn (S : Addr → Prop) (H : Hp) (a : Addr) (n : Nat) : Prop := S a ∧ ∃ p0 p1 p2 : Int, H a = some (.lst [.int p0, .int p1, .int p2]) ∧ (0 ≤ p1 ∧ p1 < 1000000007) ∧ 0 ≤ p2 ∧ p2 ≤ (n : Int)
theorem Pn.grow {T : Tbl} {S : Addr → Prop} {H H' : Hp} {a : Addr} {n : Nat} (g : Gr T H H') (h : Pn S H a n) : Pn S H' a n := by
  obtain ⟨h1, p0, p1, p2, h2, h3⟩ := h
  exact ⟨h1, p0, p1, p2, g.1 _ _ h2 (fun ps z => by cases z), h3⟩
theorem Pn.gm {T : Tbl} {M S : Addr → Prop} {H H' : Hp} {a : Addr} {n : Nat} (hM : ¬ M a) (g : Gm M T H H') (h : Pn S H a n) : Pn S H' a n := by
  obtain ⟨h1, p0, p1, p2, h2, h3⟩ := h
  exact ⟨h1, p0, p1, p2, g.kp _ _ h2 (fun ps z => by cases z) hM, h3⟩
theorem Pn.le {S : Addr → Prop} {H : Hp} {a : Addr} {n m : Nat} (hnm : n ≤ m) (h : Pn S H a n) : Pn S H a m := by
  obtain ⟨h1, p0, p1, p2, h2, h3, h4, h5⟩ := h
  exact ⟨h1, p0, p1, p2, h2, h3, h4, by omega⟩
abbrev One (a : Addr) : Addr → Prop := fun b => b = a
theorem Pn.one {S : Addr → Prop} {H : Hp} {a : Addr} {n : Nat} (h : Pn S H a n) : ∀ b, One a b → S b := fun b e => by rw [e]; exact h.1
def spDraw (T : Tbl) : Sp := fun vs H Q _ => ∃ (S : Addr → Prop) (a : Addr) (m : Int) (n : Nat), vs = [.ref a, .int m] ∧ Sok S H ∧ Tabs T H ∧ Pn S H a n ∧ n ≤ 100000 ∧ (1 ≤ m ∧ m ≤ 1000) ∧
  ∀ (d : Int) (H' : Hp), 0 ≤ d → d < m → Gm (One a) T H H' → Pn S H' a (n + 1) → Q (.int d) H'
theorem sc_draw : FnScope ["_law_pen_here", "_law_many", "_law_digit", "_law_stir"] ["_law_pen_here", "_law_many"] (defScope (top 77)) := ⟨rfl, rfl, rfl, by decide +kernel, rfl, by decide +kernel, by decide +kernel⟩

theorem if_id {c : L2.TT} {t u : TS} {D : Ends} {σ : L2.St} {H : Hp} (h : c σ H fun b H1 => if b = true then t D σ H1 else u D σ H1) : tIfS c t u D σ H := h
theorem ret_id {te : TE} {D : Ends} {σ : L2.St} {H : Hp} (h : te σ H D.rt) : tRet te D σ H := h
theorem drop_id {te : TE} {D : Ends} {σ : L2.St} {H : Hp} (h : te σ H fun _ H1 => D.nx σ H1) : tDrop te D σ H := h
theorem nil_id {D : Ends} {σ : L2.St} {H : Hp} (h : D.nx σ H) : tNext D σ H := h
theorem set_id {te : TE} {i : Nat} {D : Ends} {σ : L2.St} {H : Hp} (h : te σ H fun x H1 => D.nx (σ.set i (some x)) H1) : tAsg te (gName i) D σ H := h
theorem Ad.open {K : PySem.W.Frag} {T : Tbl} {S : Addr → Prop} {H : Hp} {σ : L2.St} {δ : Sl} {a : Addr} {ns : List Int} (h : Ad K T S H σ δ) (i : Nat) (hi : δ[i]? = some (some (.rf a))) (hp : H a = some (.lst (ns.map V.int))) : Ad K T (fun b => S b ∧ b ≠ a) H σ (δ.set i (some (.d (.list (ns.map .int))))) :=
  (h.less (fun b hb => hb.1)).know i (h.rf i hi) (Rp.lst (.inl ⟨fun z => z.2 rfl, .inl hp⟩) (RpA.of_ints ns))
section
variable {P : Program} {w : World} {K : PySem.W.Frag} {mg : Str → Option Value} {base : Heap} {T : Tbl} {f : Addr} {fd : FuncData}
theorem draw_lt {x m : Int} (hm : 1 ≤ m) : 0 ≤ x % m ∧ x % m < m := ⟨Int.emod_nonneg _ (by omega), Int.emod_lt_of_pos _ (by omega)⟩
theorem ok_draw (F : Fun K "_law_draw" "_law_draw" (top 77) f fd) : FnOk P w K mg base CX0 1 f fd ["_law_pen_here", "_law_many"] (spDraw T) := by
  refine F.ok sc_draw (fun vs H Q E h => ?_) fun cdv A outer s H vs Q E hr h => ?_
  · obtain ⟨S, a, m, n, rfl, _⟩ := h
    rfl
  obtain ⟨S, a, m, n, rfl, sk, tb, ⟨sa, p0, p1, p2, hp, b1, b2, b3⟩, hn, hm, q⟩ := h
  refine ⟨_, pss_cons (ps_if (pt_best _) (pss_cons (ps_set (i := 2) sc_draw.nd rfl (.inl rfl) (pe_best _)) (pss_cons (ps_asg (pe_best _) (pg_sub (pe_best _) (pe_best _) set_list)) (pss_one (ps_ret (pe_best _))))) pss_nil) (pss_cons (ps_asg (pe_best _) (pg_sub (pe_best _) (pe_best _) set_list)) (pss_cons (ps_set (i := 3) sc_draw.nd rfl (.inl rfl) (pe_best _)) (pss_cons (ps_set (i := 3) sc_draw.nd rfl (.inl rfl) (pe_best _)) (pss_one (ps_ret (pe_best _)))))), ?_⟩
  have ad : Ad K T S H (L2.start ["_law_pen_here", "_law_many", "_law_digit", "_law_stir"] [.ref a, .int m]) [some (.rf a), some (.d (.int m)), none, none] := ⟨sk, tb, SD.start (es := [.rf a, .d (.int m)]) (.cons rfl (.cons (Rp.int m) .nil))⟩
  generalize hσ : L2.start ["_law_pen_here", "_law_many", "_law_digit", "_law_stir"] [V.ref a, V.int m] = σ at ad ⊢
  have hl : σ.length = 4 := ad.sd.len
  have hp' : H a = some (.lst ([p0, p1, p2].map V.int)) := hp
  have hMo : ∀ b, One a b → S b := fun b e => by rw [e]; exact sa
  refine seq_id (if_id (Evt.run (evt_gt (ev_ixL (i := 0) (d := .int p0) (ev_n 0) ev_i rfl) ev_i) (ad.open 0 rfl hp') fun H1 g1 => ?_))
  have hp1 : H1 a = some (.lst ([p0, p1, p2].map V.int)) := g1.1 _ _ hp' (fun ps z => by cases z)
  have ad1 := ad.grow g1
  by_cases hpos : 0 < p0
  · rw [if_pos (decide_eq_true hpos)]
    refine seq_id (set_id (Ev.run (ev_modI (ev_ixL (i := 0) (d := .int p0) (ev_n 0) ev_i rfl) (ev_n 1) (by omega)) (ad1.open 0 rfl hp1) fun v H2 g2 r2 => ?_))
    obtain rfl := Rp.int_inv r2
    have hp2 : H2 a = some (.lst ([p0, p1, p2].map V.int)) := g2.1 _ _ hp1 (fun ps z => by cases z)
    have ad2 := (ad1.grow g2).set 2 (v := .int (p0 % m)) (e := .d (.int (p0 % m))) (Rp.int _)
    refine seq_id (asg_id (Ev.run (ev_divI (ev_ixL (i := 0) (d := .int p0) (ev_n 0) ev_i rfl) (ev_n 1) (wide_div (b := 20) (by omega) (by omega) (by decide) (by decide))) (ad2.open 0 rfl hp2) fun v H3 g3 r3 => ?_))
    obtain rfl := Rp.int_inv r3
    have hp3 : H3 a = some (.lst ([p0, p1, p2].map V.int)) := g3.1 _ _ hp2 (fun ps z => by cases z)
    refine Ev.run (T := T) (r := .rf a) (ev_n 0) (ad2.grow g3) fun o H4 g4 r4 => ?_
    obtain rfl : o = .ref a := r4
    refine Ev.run (T := T) (r := .d (.int 0)) ev_i ((ad2.grow g3).grow g4) fun o H5 g5 r5 => ?_
    obtain rfl := Rp.int_inv r5
    have hp5 : H5 a = some (.lst ([p0, p1, p2].map V.int)) := g5.1 _ _ (g4.1 _ _ hp3 (fun ps z => by cases z)) (fun ps z => by cases z)
    refine ⟨a, _, 0, 0, rfl, rfl, hp5, rfl, ?_⟩
    have gm : Gm (One a) T H5 (L2.upd H5 a (.lst (([p0, p1, p2].map V.int).set 0 (.int (p0 / m))))) := Gm.upd rfl hp5 trivial trivial
    have gA : Gm (One a) T H (L2.upd H5 a (.lst (([p0, p1, p2].map V.int).set 0 (.int (p0 / m))))) := (Gm.of ((((g1.trans g2).trans g3).trans g4).trans g5)).trans gm
    have ad5 := (((ad2.grow g3).grow g4).grow g5).gm rfl hMo gm
    refine ret_id (Ev.run (T := T) (r := .d (.int (p0 % m))) (ev_n 2) ad5 fun v H6 g6 r6 => ?_)
    obtain rfl := Rp.int_inv r6
    refine q _ _ (draw_lt hm.1).1 (draw_lt hm.1).2 (gA.trans (Gm.of g6)) ⟨sa, p0 / m, p1, p2, g6.1 _ _ upd_same (fun ps z => by cases z), b1, b2, by omega⟩
  · rw [if_neg (by rw [decide_eq_false hpos]; exact Bool.false_ne_true)]
    refine nil_id ?_
    refine seq_id (asg_id (Ev.run (ev_add (ev_ixL (i := 2) (d := .int p2) (ev_n 0) ev_i rfl) ev_i) (ad1.open 0 rfl hp1) fun v H3 g3 r3 => ?_))
    obtain rfl := Rp.int_inv r3
    have hp3 : H3 a = some (.lst ([p0, p1, p2].map V.int)) := g3.1 _ _ hp1 (fun ps z => by cases z)
    refine Ev.run (T := T) (r := .rf a) (ev_n 0) (ad1.grow g3) fun o H4 g4 r4 => ?_
    obtain rfl : o = .ref a := r4
    refine Ev.run (T := T) (r := .d (.int 2)) ev_i ((ad1.grow g3).grow g4) fun o H5 g5 r5 => ?_
    obtain rfl := Rp.int_inv r5
    have hp5 : H5 a = some (.lst ([p0, p1, p2].map V.int)) := g5.1 _ _ (g4.1 _ _ hp3 (fun ps z => by cases z)) (fun ps z => by cases z)
    refine ⟨a, _, 2, 2, rfl, rfl, hp5, rfl, ?_⟩
    have gm : Gm (One a) T H5 (L2.upd H5 a (.lst ([p0, p1, p2 + 1].map V.int))) := Gm.upd rfl hp5 trivial trivial
    have gA : Gm (One a) T H (L2.upd H5 a (.lst ([p0, p1, p2 + 1].map V.int))) := (Gm.of (((g1.trans g3).trans g4).trans g5)).trans gm
    have ad5 := (((ad1.grow g3).grow g4).grow g5).gm rfl hMo gm
    have hp6 : (L2.upd H5 a (.lst ([p0, p1, p2 + 1].map V.int))) a = some (.lst ([p0, p1, p2 + 1].map V.int)) := upd_same
    show tSeq _ _ _ _ (L2.upd H5 a (.lst ([p0, p1, p2 + 1].map V.int)))
    generalize L2.upd H5 a (.lst ([p0, p1, p2 + 1].map V.int)) = H6 at *
    generalize hk : p2 + 1 = k at *
    have hk1 : 1 ≤ k ∧ k ≤ 100001 := by omega
    refine seq_id (set_id (Ev.run (ev_modI (i := (p1 + 17 * k) * (69621 + 2 * k)) (ev_mulI (ev_add (ev_ixL (i := 1) (d := .int p1) (ev_n 0) ev_i rfl) (ev_mulI ev_i (ev_ixL (i := 2) (d := .int k) (ev_n 0) ev_i rfl) (mulW (by omega) (by omega)))) (ev_add ev_i (ev_mulI ev_i (ev_ixL (i := 2) (d := .int k) (ev_n 0) ev_i rfl) (mulW (by omega) (by omega)))) (mulW (by omega) (by omega))) ev_i (by decide)) (ad5.open 0 rfl hp6) fun v H7 g7 r7 => ?_))
    obtain rfl := Rp.int_inv r7
    have hs1 := draw_lt (x := (p1 + 17 * k) * (69621 + 2 * k)) (m := 2147483647) (by decide)
    generalize (p1 + 17 * k) * (69621 + 2 * k) % 2147483647 = s1 at *
    have hp7 : H7 a = some (.lst ([p0, p1, k].map V.int)) := g7.1 _ _ hp6 (fun ps z => by cases z)
    have ad7 := (ad5.grow g7).set 3 (v := .int s1) (e := .d (.int s1)) (Rp.int _)
    have hss : 0 ≤ s1 * s1 ∧ s1 * s1 < 2 ^ 80 := by
      refine ⟨Int.mul_nonneg hs1.1 hs1.1, ?_⟩
      have : s1 * s1 ≤ 2147483647 * 2147483647 := Int.mul_le_mul (by omega) (by omega) hs1.1 (by decide)
      omega
    refine seq_id (set_id (Ev.run (ev_modI (i := s1 * s1 + 40503 * k + 5) (ev_add (ev_add (ev_mulI (ev_n 3) (ev_n 3) (mulW (by omega) (by omega))) (ev_mulI ev_i (ev_ixL (i := 2) (d := .int k) (ev_n 0) ev_i rfl) (mulW (by omega) (by omega)))) ev_i) ev_i (by decide)) (ad7.open 0 rfl hp7) fun v H8 g8 r8 => ?_))
    obtain rfl := Rp.int_inv r8
    have hs2 := draw_lt (x := s1 * s1 + 40503 * k + 5) (m := 2147483629) (by decide)
    generalize (s1 * s1 + 40503 * k + 5) % 2147483629 = s2 at *
    have hp8 : H8 a = some (.lst ([p0, p1, k].map V.int)) := g8.1 _ _ hp7 (fun ps z => by cases z)
    have ad8 := (ad7.grow g8).set 3 (v := .int s2) (e := .d (.int s2)) (Rp.int _)
    refine ret_id (Ev.run (T := T) (r := .d (.int (s2 * 48271 % 2147483647 / 32 % m))) (ev_modI (ev_divI (ev_modI (ev_mulI (ev_n 3) ev_i (mulW (by omega) (by omega))) ev_i (by decide)) ev_i (wide_div (b := 20) (by decide) (by decide) (by decide) (by decide))) (ev_n 1) (by omega)) ad8 fun v H9 g9 r9 => ?_)
    obtain rfl := Rp.int_inv r9
    exact q _ _ (draw_lt hm.1).1 (draw_lt hm.1).2 (gA.trans (Gm.of ((g7.trans g8).trans g9))) ⟨sa, p0, p1, k, g9.1 _ _ hp8 (fun ps z => by cases z), b1, by omega, by omega⟩
end
end N

namespace N
open PySem L2 LamX
section
variable {T : Tbl} {X : Cx} {δ : Sl} {e o : Expr} {es : List Expr} {pos p apos : Pos} {x m : Str}
theorem ev_meth0I {α : Type} {enc : α → List E} {pre : α → Prop} {res : α → E} {k : Nat} {ps : List Str} {y C : Addr} {fs : List (Str × PyData)} {nm : List Str} {r : E} (D : Mdn X.prog X.w X.K X.mg X.base C m k ps (spN X.K T enc pre res)) (c : Cls X.K C) (hr : Room k X.A) (a : α)
    (h : Ev T X o δ (.ob y C fs nm)) (hnm : m ∉ nm) (ha : enc a = [.ob y C fs nm]) (hp : pre a) (hres : res a = r) {pl : Sem Bool}
    (he : eval (.Call (.Attribute o m apos) [] [] pos) X.env = (do
      let ov ← eval o X.env
      standAt apos.atName
      let (f, first) ← holding [ov] (getMethod ov m pl)
      callWith pos f first (backTo pos (starEach [] X.env)) (backToKw pos (keywordEach [] X.env))) := by rfl) : Ev T X (.Call (.Attribute o m apos) [] [] pos) δ r := hres ▸ ev_meth0 D c hr a h hnm ha hp he
theorem ev_methI {α : Type} {enc : α → List E} {pre : α → Prop} {res : α → E} {k : Nat} {ps : List Str} {y C : Addr} {fs : List (Str × PyData)} {nm : List Str} {r : E} {rs : List E} (D : Mdn X.prog X.w X.K X.mg X.base C m k ps (spN X.K T enc pre res)) (c : Cls X.K C) (hr : Room k X.A) (a : α)
    (h : Ev T X o δ (.ob y C fs nm)) (h2 : Eva T X (e :: es) δ rs) (hnm : m ∉ nm) (ha : enc a = .ob y C fs nm :: rs) (hp : pre a) (hres : res a = r) {pl : Sem Bool}
    (hse : starEach (e :: es) X.env = (false, eval e X.env) :: starEach es X.env := by rfl) (hpl : (backTo pos (starEach es X.env)).any (·.1) = false := by rfl)
    (he : eval (.Call (.Attribute o m apos) (e :: es) [] pos) X.env = (do
      let ov ← eval o X.env
      standAt apos.atName
      let (f, first) ← holding [ov] (getMethod ov m pl)
      callWith pos f first (backTo pos (starEach (e :: es) X.env)) (backToKw pos (keywordEach [] X.env))) := by rfl) : Ev T X (.Call (.Attribute o m apos) (e :: es) [] pos) δ r := hres ▸ ev_meth D c hr a h h2 hnm ha hp hse hpl he
end
/-! ### an inn, as plain data -/
structure IS where
  h : List Int
  bk : List Stay
  off : List Nat
  rm : List (Option Int)
def offD (l : List Nat) : PyData := .tuple ((l.map fun (n : Nat) => (n : Int)).map .int)
def numsL (s : IS) : List Nat := (List.range s.bk.length).filter fun n => !decide (n ∈ s.off)
def keptL (s : IS) : List Stay := (numsL s).map fun (n : Nat) => s.bk.getD n (0, 0, 0)
def roomsL (s : IS) : List (Option Int) := (numsL s).map fun (n : Nat) => s.rm.getD n none
def innF (s : IS) : List (Str × PyData) := [("house", houseD s.h), ("own_booked", staysD s.bk), ("own_off", offD s.off), ("own_rooms", toldD s.rm)]
def innN : List Str := ["house", "own_booked", "own_off", "own_rooms", "past"]
def innE (C x : Addr) (s : IS) : E := .ob x C (innF s) innN
def natsD (l : List Nat) : PyData := .list (l.map fun (n : Nat) => PyData.int (n : Int))
def bookD (s : IS) : PyData := .tuple ((numsL s).map fun (n : Nat) => .tuple [.int (n : Int), stayD (s.bk.getD n (0, 0, 0))])
def setRm (rm : List (Option Int)) (n : Nat) (o : Option Int) : List (Option Int) := rm.take n ++ [o] ++ rm.drop (n + 1)
structure ITx (K : PySem.W.Frag) (C : Addr) : Prop where
  cl : Cls K C
  nH : NoAttr K C "house"
  nB : NoAttr K C "own_booked"
  nO : NoAttr K C "own_off"
  nR : NoAttr K C "own_rooms"
  nP : NoAttr K C "past"
theorem numsL_mem {s : IS} {n : Nat} : n ∈ numsL s ↔ n < s.bk.length ∧ n ∉ s.off := by
  unfold numsL
  rw [List.mem_filter, List.mem_range]
  simp
theorem numsL_len (s : IS) : (numsL s).length ≤ s.bk.length := by
  unfold numsL
  exact Nat.le_trans (List.length_filter_le _ _) (by rw [List.length_range]; exact Nat.le_refl _)
theorem off_mem {l : List Nat} {n : Nat} : ((n : Int) ∈ l.map fun (n : Nat) => (n : Int)) ↔ n ∈ l := by
  rw [List.mem_map]
  constructor
  · rintro ⟨m, hm, e⟩
    rw [← show m = n by omega]
    exact hm
  · exact fun h => ⟨n, h, rfl⟩
abbrev sM (i : Nat) : Stmt := inClass (top 73) i
theorem sc_numbers : FnScope ["self", "number"] ["self"] (defScope (sM 2)) := ⟨rfl, rfl, rfl, by decide +kernel, rfl, by decide +kernel, by decide +kernel⟩
theorem sc_kept : FnScope ["self", "number"] ["self"] (defScope (sM 3)) := ⟨rfl, rfl, rfl, by decide +kernel, rfl, by decide +kernel, by decide +kernel⟩
theorem sc_need_kept : FnScope ["self", "number"] ["self", "number"] (defScope (sM 5)) := ⟨rfl, rfl, rfl, by decide +kernel, rfl, by decide +kernel, by decide +kernel⟩
theorem sc_with_room : FnScope ["self", "number", "room"] ["self", "number", "room"] (defScope (sM 6)) := ⟨rfl, rfl, rfl, by decide +kernel, rfl, by decide +kernel, by decide +kernel⟩
theorem sc_stays : FnScope ["self", "number"] ["self"] (defScope (sM 10)) := ⟨rfl, rfl, rfl, by decide +kernel, rfl, by decide +kernel, by decide +kernel⟩
theorem sc_rooms : FnScope ["self", "number"] ["self"] (defScope (sM 11)) := ⟨rfl, rfl, rfl, by decide +kernel, rfl, by decide +kernel, by decide +kernel⟩
theorem sc_mplan : FnScope ["self"] ["self"] (defScope (sM 12)) := ⟨rfl, rfl, rfl, by decide +kernel, rfl, by decide +kernel, by decide +kernel⟩
theorem sc_mleft : FnScope ["self", "night", "kind"] ["self", "night", "kind"] (defScope (sM 13)) := ⟨rfl, rfl, rfl, by decide +kernel, rfl, by decide +kernel, by decide +kernel⟩
section
variable (K : PySem.W.Frag) (T : Tbl) (C : Addr)
abbrev sp_numbers : Sp := spN (α := Addr × IS) K T (fun a => [innE C a.1 a.2]) (fun a => a.2.bk.length ≤ 1000) (fun a => .d (natsD (numsL a.2)))
abbrev sp_kept : Sp := spN (α := Addr × IS) K T (fun a => [innE C a.1 a.2]) (fun a => a.2.bk.length ≤ 1000) (fun a => .d (staysD (keptL a.2)))
abbrev sp_need_kept : Sp := spN (α := Addr × IS × Nat) K T (fun a => [innE C a.1 a.2.1, .d (.int (a.2.2 : Int))]) (fun a => a.2.2 ∈ numsL a.2.1) (fun a => .d .none)
abbrev sp_with_room : Sp := spN (α := Addr × IS × Nat × Option Int) K T (fun a => [innE C a.1 a.2.1, .d (.int (a.2.2.1 : Int)), .d (optD a.2.2.2)]) (fun a => a.2.2.1 < a.2.1.rm.length ∧ a.2.1.rm.length ≤ 1000) (fun a => .d (toldD (setRm a.2.1.rm a.2.2.1 a.2.2.2)))
abbrev sp_stays : Sp := spN (α := Addr × IS) K T (fun a => [innE C a.1 a.2]) (fun a => a.2.bk.length ≤ 1000) (fun a => .d (bookD a.2))
abbrev sp_rooms : Sp := spN (α := Addr × IS) K T (fun a => [innE C a.1 a.2]) (fun a => a.2.bk.length ≤ 1000 ∧ a.2.rm.length = a.2.bk.length) (fun a => .d (toldD (roomsL a.2)))
abbrev sp_mplan : Sp := spN (α := Addr × IS) K T (fun a => [innE C a.1 a.2]) (fun a => a.2.bk.length ≤ 1000 ∧ a.2.rm.length = a.2.bk.length ∧ a.2.h.length ≤ 5 ∧ (numsL a.2).length ≤ 8) (fun a => .d (optL (planWith a.2.h (keptL a.2) (roomsL a.2))))
abbrev sp_mleft : Sp := spN (α := Addr × IS × Int × Int) K T (fun a => [innE C a.1 a.2.1, .d (.int a.2.2.1), .d (.int a.2.2.2)]) (fun a => a.2.1.bk.length ≤ 1000 ∧ a.2.1.h.length ≤ 5 ∧ (0 ≤ a.2.2.1 ∧ a.2.2.1 ≤ 40) ∧ 1 ≤ a.2.2.2 ∧ a.2.2.2 ≤ 3) (fun a => .d (.int (leftI a.2.1.h (keptL a.2.1) a.2.2.1 a.2.2.2)))
end
theorem staysD_at {bk : List Stay} {n : Nat} (hn : n < bk.length) : atI (bk.map stayD) (n : Int) = some (stayD (bk.getD n (0, 0, 0))) := by
  rw [atI_nat (by omega) (by rw [List.length_map]; omega), Int.toNat_natCast, List.getElem?_map, List.getD_eq_getElem?_getD, List.getElem?_eq_getElem hn]
  rfl
theorem toldD_at {rm : List (Option Int)} {n : Nat} (hn : n < rm.length) : atI (rm.map optD) (n : Int) = some (optD (rm.getD n none)) := by
  rw [atI_nat (by omega) (by rw [List.length_map]; omega), Int.toNat_natCast, List.getElem?_map, List.getD_eq_getElem?_getD, List.getElem?_eq_getElem hn]
  rfl
section
variable {P : Program} {w : World} {K : PySem.W.Frag} {mg : Str → Option Value} {base : Heap} {T : Tbl} {C f : Addr} {fd : FuncData}
theorem ok_numbers (F : Fun K "numbers" "Inn.numbers" (sM 2) f fd) (B : Bn mg) (I : ITx K C) : FnOk P w K mg base CX0 1 f fd ["self"] (sp_numbers K T C) := by
  refine fn_mkN F sc_numbers (fun _ => rfl) fun cdv A outer s H E hr a hp => ⟨.rt (.d (natsD (numsL a.2))), ?_, rfl⟩
  obtain ⟨x, s⟩ := a
  dsimp only at hp ⊢
  refine evb_one (evs_ret ?_)
  refine ev_lc (js := [1]) [("number", 1)] (List.range s.bk.length) (fun (i : Nat) => PyData.int (i : Int)) (fun (i : Nat) => !decide (i ∈ s.off)) (fun (i : Nat) => PyData.int (i : Int)) (nd_ok rfl) rfl (evi_r1' B (ev_lenT (ds := s.bk.map stayD) B (ev_fld (C := C) (fs := innF s) (nm := innN) (y := x) (ev_n 0) I.cl I.nB rfl)) (by rw [List.length_map]) hp) (by rw [List.length_range]; omega) fun n hn => ?_
  refine ⟨_, fun s' H0 C' cl fp => ⟨evg_n 1 (nd_ok rfl), evts_one (evt_is (evt_ninT (n := (n : Int)) (ns := s.off.map fun (n : Nat) => (n : Int)) (ev_n 1) (ev_fld (C := C) (fs := innF s) (nm := innN) (y := x) (ev_n 0) I.cl I.nO rfl)) ?_), fun _ => ev_n 1⟩⟩
  congr 1
  exact decide_eq_decide.mpr off_mem
theorem ok_kept (F : Fun K "kept" "Inn.kept" (sM 3) f fd) (B : Bn mg) (I : ITx K C) (D1 : Mdn P w K mg base C "numbers" 1 ["self"] (sp_numbers K T C)) : FnOk P w K mg base CX0 2 f fd ["self"] (sp_kept K T C) := by
  refine fn_mkN F sc_kept (fun _ => rfl) fun cdv A outer s H E hr a hp => ⟨.rt (.d (staysD (keptL a.2))), ?_, rfl⟩
  obtain ⟨x, s⟩ := a
  dsimp only at hp ⊢
  refine evb_one (evs_ret (ev_tupL (ds := (keptL s).map stayD) B (ev_is (ev_lcM (js := [1]) [("number", 1)] (numsL s) (fun (i : Nat) => PyData.int (i : Int)) (fun (n : Nat) => stayD (s.bk.getD n (0, 0, 0))) (nd_ok rfl) rfl (evi_list (ds := (numsL s).map fun (i : Nat) => PyData.int (i : Int)) ?_) (by have := numsL_len s; omega) fun n hn => ?_) ?_)))
  · exact ev_meth0I D1 I.cl hr (x, s) (ev_n 0) (by decide) rfl hp rfl
  · refine ⟨_, fun s' H0 C' cl fp => ⟨evg_n 1 (nd_ok rfl), evts_nil, fun _ => ?_⟩⟩
    exact ev_ixT (ds := s.bk.map stayD) (i := (n : Int)) (ev_fld (C := C) (fs := innF s) (nm := innN) (y := x) (ev_n 0) I.cl I.nB rfl) (ev_n 1) (staysD_at (numsL_mem.mp hn).1)
  · unfold keptL
    rw [List.map_map]
    rfl
theorem ok_need_kept (F : Fun K "need_kept" "Inn.need_kept" (sM 5) f fd) (B : Bn mg) (I : ITx K C) (D1 : Dfn P w K mg base "is_among" 2 ["thing", "low", "high"] (sp_is_among K T)) : FnOk P w K mg base CX0 3 f fd ["self", "number"] (sp_need_kept K T C) := by
  refine fn_mkN F sc_need_kept (fun _ => rfl) fun cdv A outer s H E hr a hp => ⟨.nx [some (innE C a.1 a.2.1), some (.d (.int (a.2.2 : Int)))], ?_, rfl⟩
  obtain ⟨x, s, n⟩ := a
  dsimp only at hp ⊢
  have hn := numsL_mem.mp hp
  refine evb_one (evs_if (u := false) (evt_is (evt_or (u := false) (v := false) (evt_is (evt_not (u := true) (evt_v ?_)) rfl) fun _ => evt_is (evt_inT (n := (n : Int)) (ns := s.off.map fun (n : Nat) => (n : Int)) (ev_n 1) (ev_fld (C := C) (fs := innF s) (nm := innN) (y := x) (ev_n 0) I.cl I.nO rfl)) ?_) rfl) (fun z => by cases z) (fun _ => evb_nil))
  · refine ev_callI D1 hr ((n : Int), 0, (s.bk.length : Int) - 1) (eva_cons (ev_n 1) (eva_cons ev_i (eva_cons (ev_is (ev_sub (ev_lenT (ds := s.bk.map stayD) B (ev_fld (C := C) (fs := innF s) (nm := innN) (y := x) (ev_n 0) I.cl I.nB rfl)) ev_i) (by rw [List.length_map])) eva_nil))) trivial ?_
    show N.E.d (.bool (amongB (n : Int) 0 ((s.bk.length : Int) - 1))) = _
    unfold amongB
    rw [decide_eq_true (by omega : (0 : Int) ≤ (n : Int)), decide_eq_true (by omega : (n : Int) ≤ (s.bk.length : Int) - 1)]
    rfl
  · exact decide_eq_false fun z => hn.2 (off_mem.mp z)
theorem ok_with_room (F : Fun K "with_room" "Inn.with_room" (sM 6) f fd) (I : ITx K C) : FnOk P w K mg base CX0 1 f fd ["self", "number", "room"] (sp_with_room K T C) := by
  refine fn_mkN F sc_with_room (fun _ => rfl) fun cdv A outer s H E hr a hp => ⟨.rt (.d (toldD (setRm a.2.1.rm a.2.2.1 a.2.2.2))), ?_, rfl⟩
  obtain ⟨x, s, n, o⟩ := a
  dsimp only at hp ⊢
  have c1 := cutD_to (s.rm.map optD) n (by rw [List.length_map]; exact Nat.le_of_lt hp.1)
  have c2 := cutD_from (s.rm.map optD) n (by rw [List.length_map]; exact hp.1)
  refine evb_one (evs_ret (ev_is (ev_catT (ds := cutD (s.rm.map optD) none (some (n : Int)) ++ [optD o]) (ds2 := cutD (s.rm.map optD) (some ((n : Int) + 1)) none) (ev_catT (ev_slT (ev_fld (C := C) (fs := innF s) (nm := innN) (y := x) (ev_n 0) I.cl I.nR rfl) evo_none (evo_some (ev_n 1))) (ev_tup (evd_cons (ev_n 2) evd_nil)) ?_) (ev_slT (ev_fld (C := C) (fs := innF s) (nm := innN) (y := x) (ev_n 0) I.cl I.nR rfl) (evo_some (ev_add (ev_n 1) ev_i)) evo_none) ?_) ?_))
  · rw [c1]
    simp
    omega
  · rw [c1, c2]
    simp
    omega
  · rw [c1, c2]
    unfold toldD setRm
    simp
theorem ok_stays (F : Fun K "stays" "Inn.stays" (sM 10) f fd) (B : Bn mg) (I : ITx K C) (D1 : Mdn P w K mg base C "numbers" 1 ["self"] (sp_numbers K T C)) : FnOk P w K mg base CX0 2 f fd ["self"] (sp_stays K T C) := by
  refine fn_mkN F sc_stays (fun _ => rfl) fun cdv A outer s H E hr a hp => ⟨.rt (.d (bookD a.2)), ?_, rfl⟩
  obtain ⟨x, s⟩ := a
  dsimp only at hp ⊢
  refine evb_one (evs_ret (ev_tupL B (ev_lcM (js := [1]) [("number", 1)] (numsL s) (fun (i : Nat) => PyData.int (i : Int)) (fun (n : Nat) => .tuple [.int (n : Int), stayD (s.bk.getD n (0, 0, 0))]) (nd_ok rfl) rfl (evi_list (ds := (numsL s).map fun (i : Nat) => PyData.int (i : Int)) ?_) (by have := numsL_len s; omega) fun n hn => ?_)))
  · exact ev_meth0I D1 I.cl hr (x, s) (ev_n 0) (by decide) rfl hp rfl
  refine ⟨_, fun s' H0 C' cl fp => ⟨evg_n 1 (nd_ok rfl), evts_nil, fun _ => ?_⟩⟩
  exact ev_tup (evd_cons (ev_n 1) (evd_cons (ev_ixT (ds := s.bk.map stayD) (i := (n : Int)) (ev_fld (C := C) (fs := innF s) (nm := innN) (y := x) (ev_n 0) I.cl I.nB rfl) (ev_n 1) (staysD_at (numsL_mem.mp hn).1)) evd_nil))
theorem ok_rooms (F : Fun K "rooms" "Inn.rooms" (sM 11) f fd) (B : Bn mg) (I : ITx K C) (D1 : Mdn P w K mg base C "numbers" 1 ["self"] (sp_numbers K T C)) : FnOk P w K mg base CX0 2 f fd ["self"] (sp_rooms K T C) := by
  refine fn_mkN F sc_rooms (fun _ => rfl) fun cdv A outer s H E hr a hp => ⟨.rt (.d (toldD (roomsL a.2))), ?_, rfl⟩
  obtain ⟨x, s⟩ := a
  dsimp only at hp ⊢
  refine evb_one (evs_ret (ev_tupL (ds := (roomsL s).map optD) B (ev_is (ev_lcM (js := [1]) [("number", 1)] (numsL s) (fun (i : Nat) => PyData.int (i : Int)) (fun (n : Nat) => optD (s.rm.getD n none)) (nd_ok rfl) rfl (evi_list (ds := (numsL s).map fun (i : Nat) => PyData.int (i : Int)) ?_) (by have := numsL_len s; have := hp.1; omega) fun n hn => ?_) ?_)))
  · exact ev_meth0I D1 I.cl hr (x, s) (ev_n 0) (by decide) rfl hp.1 rfl
  · refine ⟨_, fun s' H0 C' cl fp => ⟨evg_n 1 (nd_ok rfl), evts_nil, fun _ => ?_⟩⟩
    exact ev_ixT (ds := s.rm.map optD) (i := (n : Int)) (ev_fld (C := C) (fs := innF s) (nm := innN) (y := x) (ev_n 0) I.cl I.nR rfl) (ev_n 1) (toldD_at (by rw [hp.2]; exact (numsL_mem.mp hn).1))
  · unfold roomsL
    rw [List.map_map]
    rfl
theorem ok_mplan (F : Fun K "plan" "Inn.plan" (sM 12) f fd) (I : ITx K C) (D1 : Mdn P w K mg base C "kept" 2 ["self"] (sp_kept K T C)) (D2 : Mdn P w K mg base C "rooms" 2 ["self"] (sp_rooms K T C)) (D3 : Dfn P w K mg base "plan_with" 7 ["house", "stays", "told"] (sp_plan_with K T)) : FnOk P w K mg base CX0 8 f fd ["self"] (sp_mplan K T C) := by
  refine fn_mkN F sc_mplan (fun _ => rfl) fun cdv A outer s H E hr a hp => ⟨.rt (.d (optL (planWith a.2.h (keptL a.2) (roomsL a.2)))), ?_, rfl⟩
  obtain ⟨x, s⟩ := a
  dsimp only at hp ⊢
  obtain ⟨h1, h2, h3, h4⟩ := hp
  have hl : (roomsL s).length = (keptL s).length := by unfold roomsL keptL; rw [List.length_map, List.length_map]
  have hk : (keptL s).length ≤ 8 := by unfold keptL; rw [List.length_map]; exact h4
  refine evb_one (evs_ret ?_)
  exact ev_callI D3 hr (s.h, keptL s, roomsL s) (eva_cons (ev_fld (C := C) (fs := innF s) (nm := innN) (y := x) (ev_n 0) I.cl I.nH rfl) (eva_cons (ev_meth0I D1 I.cl (hr.mono (by decide)) (x, s) (ev_n 0) (by decide) rfl h1 rfl) (eva_cons (ev_meth0I D2 I.cl (hr.mono (by decide)) (x, s) (ev_n 0) (by decide) rfl ⟨h1, h2⟩ rfl) eva_nil))) ⟨h3, hk, hl, plan_holds h3 hl⟩ rfl
theorem ok_mleft (F : Fun K "left" "Inn.left" (sM 13) f fd) (I : ITx K C) (D1 : Mdn P w K mg base C "kept" 2 ["self"] (sp_kept K T C)) (D2 : Dfn P w K mg base "left_by" 3 ["house", "stays", "night", "kind"] (sp_left_by K T)) (D3 : Dfn P w K mg base "need_night" 3 ["thing"] (sp_need_night K T)) (D4 : Dfn P w K mg base "need_kind" 4 ["thing"] (sp_need_kind K T)) : FnOk P w K mg base CX0 5 f fd ["self", "night", "kind"] (sp_mleft K T C) := by
  refine fn_mkN F sc_mleft (fun _ => rfl) fun cdv A outer s H E hr a hp => ⟨.rt (.d (.int (leftI a.2.1.h (keptL a.2.1) a.2.2.1 a.2.2.2))), ?_, rfl⟩
  obtain ⟨x, s, n, k⟩ := a
  dsimp only at hp ⊢
  obtain ⟨h1, h2, h3, h4⟩ := hp
  have hk : (keptL s).length ≤ 1000 := by unfold keptL; rw [List.length_map]; have := numsL_len s; omega
  refine evb_cons (evs_expr (r := .d .none) (ev_callI D3 (hr.mono (by decide)) n (eva_cons (ev_n 1) eva_nil) h3 rfl)) (evb_cons (evs_expr (r := .d .none) (ev_callI D4 hr k (eva_cons (ev_n 2) eva_nil) h4 rfl)) (evb_one (evs_ret ?_)))
  exact ev_callI D2 (hr.mono (by decide)) (s.h, keptL s, n, k) (eva_cons (ev_fld (C := C) (fs := innF s) (nm := innN) (y := x) (ev_n 0) I.cl I.nH rfl) (eva_cons (ev_meth0I D1 I.cl (hr.mono (by decide)) (x, s) (ev_n 0) (by decide) rfl h1 rfl) (eva_cons (ev_n 1) (eva_cons (ev_n 2) eva_nil)))) ⟨by show s.h.length ≤ 1000; omega, hk, h4⟩ rfl
end
end N

namespace N
open PySem L2 LamX
theorem n01 : ¬ (("house" : Str) = "own_booked") := by decide +kernel
theorem n02 : ¬ (("house" : Str) = "own_off") := by decide +kernel
theorem n03 : ¬ (("house" : Str) = "own_rooms") := by decide +kernel
theorem n04 : ¬ (("house" : Str) = "past") := by decide +kernel
theorem n12 : ¬ (("own_booked" : Str) = "own_off") := by decide +kernel
theorem n13 : ¬ (("own_booked" : Str) = "own_rooms") := by decide +kernel
theorem n14 : ¬ (("own_booked" : Str) = "past") := by decide +kernel
theorem n23 : ¬ (("own_off" : Str) = "own_rooms") := by decide +kernel
theorem n24 : ¬ (("own_off" : Str) = "past") := by decide +kernel
theorem n34 : ¬ (("own_rooms" : Str) = "past") := by decide +kernel
theorem lk_cons {α : Type} (k a : Str) (b : α) (l : List (Str × α)) : List.lookup k ((a, b) :: l) = if k = a then some b else List.lookup k l := by
  by_cases h : k = a
  · subst h
    simp [List.lookup]
  · have : (k == a) = false := by simpa using h
    simp [List.lookup, this, h]
def fsOf (u1 u2 u3 u4 u5 : V) : List (Str × V) := [("house", u1), ("own_booked", u2), ("own_off", u3), ("own_rooms", u4), ("past", u5)]
theorem fs_put0 (u1 u2 u3 u4 u5 : V) : putF "past" u5 (putF "own_rooms" u4 (putF "own_off" u3 (putF "own_booked" u2 (putF "house" u1 [])))) = fsOf u1 u2 u3 u4 u5 := by
  simp only [putF, if_neg n01, if_neg n02, if_neg n03, if_neg n04, if_neg n12, if_neg n13, if_neg n14, if_neg n23, if_neg n24, if_neg n34]
  rfl
theorem fs_put1 (u1 u2 u3 u4 u5 v : V) : putF "own_booked" v (fsOf u1 u2 u3 u4 u5) = fsOf u1 v u3 u4 u5 := by
  unfold fsOf
  simp only [putF, if_neg n01, if_pos rfl]
  rfl
theorem fs_put2 (u1 u2 u3 u4 u5 v : V) : putF "own_off" v (fsOf u1 u2 u3 u4 u5) = fsOf u1 u2 v u4 u5 := by
  unfold fsOf
  simp only [putF, if_neg n02, if_neg n12, if_pos rfl]
  rfl
theorem fs_put3 (u1 u2 u3 u4 u5 v : V) : putF "own_rooms" v (fsOf u1 u2 u3 u4 u5) = fsOf u1 u2 u3 v u5 := by
  unfold fsOf
  simp only [putF, if_neg n03, if_neg n13, if_neg n23, if_pos rfl]
  rfl
theorem fs_put4 (u1 u2 u3 u4 u5 v : V) : putF "past" v (fsOf u1 u2 u3 u4 u5) = fsOf u1 u2 u3 u4 v := by
  unfold fsOf
  simp only [putF, if_neg n04, if_neg n14, if_neg n24, if_neg n34, if_pos rfl]
  rfl
theorem fs_past (u1 u2 u3 u4 u5 : V) : (fsOf u1 u2 u3 u4 u5).lookup ("past" : Str) = some u5 := by
  unfold fsOf
  rw [lk_cons, if_neg (Ne.symm n04), lk_cons, if_neg (Ne.symm n14), lk_cons, if_neg (Ne.symm n24), lk_cons, if_neg (Ne.symm n34), lk_cons, if_pos rfl]
/-- an inn stands at x; its past is the list at pl -/
structure InnAt (K : PySem.W.Frag) (S : Addr → Prop) (H : Hp) (C x pl : Addr) (s : IS) (n : Nat) : Prop where
  sx : S x
  sp : S pl
  at' : ∃ dx u1 u2 u3 u4 xs, H x = some (.ins C dx (fsOf u1 u2 u3 u4 (.ref pl))) ∧ H pl = some (.lst xs) ∧ xs.length ≤ n ∧ Rp K S H u1 (houseD s.h) ∧ Rp K S H u2 (staysD s.bk) ∧ Rp K S H u3 (offD s.off) ∧ Rp K S H u4 (toldD s.rm)
section
variable {K : PySem.W.Frag} {T : Tbl} {M S S' : Addr → Prop} {H H' : Hp} {C x pl : Addr} {s : IS} {n : Nat}
theorem InnAt.ne (h : InnAt K S H C x pl s n) : pl ≠ x := by
  obtain ⟨dx, u1, u2, u3, u4, xs, h1, h2, _⟩ := h.at'
  intro e
  rw [e, h1] at h2
  cases h2
theorem InnAt.gm (h : InnAt K S H C x pl s n) (sk : Sok S H) (hM : ∀ b, M b → S b) (nx : ¬ M x) (np : ¬ M pl) (g : Gm M T H H') : InnAt K S H' C x pl s n := by
  obtain ⟨dx, u1, u2, u3, u4, xs, h1, h2, h3, r1, r2, r3, r4⟩ := h.at'
  have sm : Sok M H := fun b hb => sk b (hM b hb)
  exact ⟨h.sx, h.sp, dx, u1, u2, u3, u4, xs, g.kp _ _ h1 (fun ps z => by cases z) nx, g.kp _ _ h2 (fun ps z => by cases z) np, h3, Rp.gm g hM sm r1, Rp.gm g hM sm r2, Rp.gm g hM sm r3, Rp.gm g hM sm r4⟩
theorem InnAt.grow (h : InnAt K S H C x pl s n) (g : Gr T H H') : InnAt K S H' C x pl s n := by
  obtain ⟨dx, u1, u2, u3, u4, xs, h1, h2, h3, r1, r2, r3, r4⟩ := h.at'
  exact ⟨h.sx, h.sp, dx, u1, u2, u3, u4, xs, g.1 _ _ h1 (fun ps z => by cases z), g.1 _ _ h2 (fun ps z => by cases z), h3, r1.grow g, r2.grow g, r3.grow g, r4.grow g⟩
theorem InnAt.more (h : InnAt K S H C x pl s n) (h1 : ∀ b, S b → S' b) (hs : ∀ b, S' b → S b ∨ H b = none) : InnAt K S' H C x pl s n := by
  obtain ⟨dx, u1, u2, u3, u4, xs, q1, q2, h3, r1, r2, r3, r4⟩ := h.at'
  exact ⟨h1 _ h.sx, h1 _ h.sp, dx, u1, u2, u3, u4, xs, q1, q2, h3, r1.more hs, r2.more hs, r3.more hs, r4.more hs⟩
theorem InnAt.le {m : Nat} (h : InnAt K S H C x pl s n) (hm : n ≤ m) : InnAt K S H C x pl s m := by
  obtain ⟨dx, u1, u2, u3, u4, xs, q1, q2, h3, r⟩ := h.at'
  exact ⟨h.sx, h.sp, dx, u1, u2, u3, u4, xs, q1, q2, by omega, r⟩
theorem InnAt.re (h : InnAt K S H C x pl s n) : RE K S H (.ref x) (innE C x s) := by
  obtain ⟨dx, u1, u2, u3, u4, xs, h1, h2, h3, r1, r2, r3, r4⟩ := h.at'
  refine ⟨rfl, dx, _, h1, fun f p q => ?_, fun m hm => ?_⟩
  · unfold innF at q
    unfold fsOf
    rw [lk_cons] at q ⊢
    by_cases e : f = "house"
    · rw [if_pos e] at q ⊢
      cases q
      exact ⟨u1, rfl, r1⟩
    · rw [if_neg e] at q ⊢
      rw [lk_cons] at q ⊢
      by_cases e : f = "own_booked"
      · rw [if_pos e] at q ⊢
        cases q
        exact ⟨u2, rfl, r2⟩
      · rw [if_neg e] at q ⊢
        rw [lk_cons] at q ⊢
        by_cases e : f = "own_off"
        · rw [if_pos e] at q ⊢
          cases q
          exact ⟨u3, rfl, r3⟩
        · rw [if_neg e] at q ⊢
          rw [lk_cons] at q ⊢
          by_cases e : f = "own_rooms"
          · rw [if_pos e] at q ⊢
            cases q
            exact ⟨u4, rfl, r4⟩
          · rw [if_neg e] at q
            cases q
  · unfold innN at hm
    simp only [List.mem_cons, not_or, List.not_mem_nil, not_false_eq_true, and_true] at hm
    obtain ⟨m1, m2, m3, m4, m5⟩ := hm
    unfold fsOf
    rw [lk_cons, if_neg m1, lk_cons, if_neg m2, lk_cons, if_neg m3, lk_cons, if_neg m4, lk_cons, if_neg m5]
    rfl
end
/-- self.f = e -/
theorem fld_run {X : Cx} {T : Tbl} {S : Addr → Prop} {δ : Sl} {σ : L2.St} {H : Hp} {D : Ends} {o e : Expr} {f : Str} {r : E} {x C dx : Addr} {fs : List (Str × V)} {δ' : Sl} (ad : Ad X.K T S H σ δ) (ad' : Ad X.K T S H σ δ')
    (ho : Ev T X o δ (.rf x)) (hv : Ev T X e δ' r) (hr : stbE (some r) = true) (hS : S x) (hH : H x = some (.ins C dx fs)) (hl : fs.length < 1000) (cl : Cls X.K C) (na : NoAttr X.K C f)
    (k : ∀ v H', Gm (One x) T H H' → H' x = some (.ins C dx (putF f v fs)) → RE X.K S H' v r → Sok S H' → D.nx σ H') : sFld X.K (tB X o) (tB X e) f D σ H :=
  hv.run ad' fun v H1 g1 r1 => ho.run (ad.grow g1) fun y H2 g2 r2 => by
    obtain rfl : y = .ref x := r2
    have h2 : H2 x = some (.ins C dx fs) := g2.1 _ _ (g1.1 _ _ hH (fun ps z => by cases z)) (fun ps z => by cases z)
    have hM : ∀ b, One x b → S b := fun b hb => by rw [hb]; exact hS
    have sk2 := ((ad.grow g1).grow g2).sok
    have gm : Gm (One x) T H2 (L2.upd H2 x (.ins C dx (putF f v fs))) := Gm.upd rfl h2 trivial trivial
    refine ⟨x, C, dx, fs, rfl, h2, cl, na, hl, k v _ ((Gm.of (g1.trans g2)).trans gm) upd_same ?_ (sk2.gm gm hM)⟩
    exact RE.gm gm hM (fun b hb => sk2 b (hM b hb)) hr (r1.grow g2)
section
variable {P : Program} {w : World} {K : PySem.W.Frag} {mg : Str → Option Value} {base : Heap} {T : Tbl} {C f : Addr} {fd : FuncData}
def spKeep (K : PySem.W.Frag) (T : Tbl) (C : Addr) : Sp := fun vs H Q _ => ∃ (S : Addr → Prop) (x pl : Addr) (s : IS) (n : Nat), vs = [.ref x] ∧ Sok S H ∧ Tabs T H ∧ InnAt K S H C x pl s n ∧ n ≤ 1000 ∧
  ∀ H' : Hp, Gm (One pl) T H H' → InnAt K S H' C x pl s (n + 1) → Q .non H'
theorem sc_keep : FnScope ["self"] ["self"] (defScope (sM 1)) := ⟨rfl, rfl, rfl, by decide +kernel, rfl, by decide +kernel, by decide +kernel⟩
theorem ok_keep (F : Fun K "keep" "Inn.keep" (sM 1) f fd) (I : ITx K C) : FnOk P w K mg base CX0 1 f fd ["self"] (spKeep K T C) := by
  refine F.ok sc_keep (fun vs H Q E h => ?_) fun cdv A outer s0 H vs Q E hr h => ?_
  · obtain ⟨S, x, pl, s, n, rfl, _⟩ := h
    rfl
  obtain ⟨S, x, pl, s, n, rfl, sk, tb, inn, hn, q⟩ := h
  refine ⟨_, pss_one (ps_expr (pe_bm PySem.F.plainAttrs_list PySem.F.slot_list_append PySem.F.type_list_append mt_append (pe_fld (pv 0) rfl) (pa_cons (pe_best _) pa_nil))), ?_⟩
  have ad : Ad K T S H (L2.start ["self"] [.ref x]) [some (innE C x s)] := ⟨sk, tb, SD.start (es := [innE C x s]) (.cons inn.re .nil)⟩
  obtain ⟨dx, u1, u2, u3, u4, xs, h1, h2, h3, r1, r2, r3, r4⟩ := inn.at'
  refine ⟨_, rfl, x, C, dx, _, _, rfl, h1, I.cl, I.nP, fs_past _ _ _ _ _, .inl ⟨rfl, _, SqL.of h2⟩, ?_⟩
  refine Ev.run (T := T) (r := .d (.tuple [staysD s.bk, offD s.off, toldD s.rm])) (ev_tup (evd_cons (ev_fld (C := C) (fs := innF s) (nm := innN) (y := x) (ev_n 0) I.cl I.nB rfl) (evd_cons (ev_fld (C := C) (fs := innF s) (nm := innN) (y := x) (ev_n 0) I.cl I.nO rfl) (evd_cons (ev_fld (C := C) (fs := innF s) (nm := innN) (y := x) (ev_n 0) I.cl I.nR rfl) evd_nil)))) ad fun v H1 g1 rv => ?_
  have hp1 : H1 pl = some (.lst xs) := g1.1 _ _ h2 (fun ps z => by cases z)
  have gm : Gm (One pl) T H1 (L2.upd H1 pl (.lst (xs ++ [v]))) := Gm.upd rfl hp1 trivial trivial
  have gA : Gm (One pl) T H (L2.upd H1 pl (.lst (xs ++ [v]))) := (Gm.of g1).trans gm
  have hM : ∀ b, One pl b → S b := fun b hb => by rw [hb]; exact inn.sp
  have sm : Sok (One pl) H := fun b hb => sk b (hM b hb)
  refine ⟨pl, xs, v, rfl, rfl, hp1, Nat.lt_of_le_of_lt h3 (Nat.lt_of_le_of_lt hn (by decide)), ?_⟩
  refine q _ gA ⟨inn.sx, inn.sp, dx, u1, u2, u3, u4, xs ++ [v], gA.kp _ _ h1 (fun ps z => by cases z) (fun z => inn.ne z.symm), upd_same, by rw [List.length_append]; simp; omega, Rp.gm gA hM sm r1, Rp.gm gA hM sm r2, Rp.gm gA hM sm r3, Rp.gm gA hM sm r4⟩
end
end N

/-! sorted(t), t a tuple of ints -/
namespace SrtO
open PySem PyProof.Rows Srt
section
variable {prog : Program} {w : World} {A : Around} {E : Value → Shared → Prop} {s : Shared}
theorem collect_tupN {l : Addr} {vs : List Value} {Q : List Value → Shared → Prop} (hl : IsTup s.heap l vs.toArray)
    (h : Q vs { s with heap := (s.heap.push (seqObj "list" #[] 0)).update s.heap.objs.size (Obj.mapSeq (· ++ vs.toArray)) }) (hsz : vs.length ≤ sizeLine) :
    wpAny (model prog w) A (collect (.ref l)) Q E s := by
  obtain ⟨o, ho, hc, n, hd⟩ := id hl
  unfold collect
  refine wpAny_bind (wpAny_runValue (codeAny_builtin entry_proto_collect' ?_))
  show wpAny _ _ (do again (.builtin "list.__iadd__" ⟨[← newList [], .ref l], []⟩)) _ _ s
  refine wpAny_bind (wpAny_newList (wpAny_pure ⟨Code.quiet_builtin _ (by decide +kernel), codeAny_builtin entry_list_iadd' ?_⟩))
  show wpAny _ _ (Builtin.List.listExtendWith (.ref s.heap.objs.size) (.ref l) (.ref s.heap.objs.size)) _ _ { s with heap := s.heap.push (seqObj "list" #[] 0) }
  unfold Builtin.List.listExtendWith
  have ho' : (s.heap.push (seqObj "list" #[] 0)).get? l = some o := Heap.get?_push_of_some _ ho
  refine wpAny_bind (wpAny_typeOf (T := "tuple") ⟨o, ho', hc⟩ ?_)
  have ht : (Value.type "tuple" == Value.type "tuple") = true := by rfl
  rw [if_pos (by rw [ht]; simp)]
  refine wpAny_bind (listItems_at ho' hd ?_)
  refine wpAny_bind (listItems_at (xs := #[]) (n := 0) (Heap.get?_push_size _ rfl) rfl ?_)
  rw [if_neg (by simp)]
  refine wpAny_bind (listUpdate_at (xs := #[]) (n := 0) (Heap.get?_push_size _ rfl) rfl ?_ (Nat.zero_le _) (by show (#[] ++ vs.toArray).size ≤ sizeLine + 1; simp only [Array.size_append, List.size_toArray, List.length_nil]; omega))
  refine wpAny_pure ?_
  show wpAny (model prog w) A (do
      let o ← load s.heap.objs.size
      match o.data with
      | .seq xs _ => pure xs.toList
      | _ => unsupported "internal:collect") Q E { s with heap := (s.heap.push (seqObj "list" #[] 0)).update s.heap.objs.size (Obj.mapSeq (· ++ vs.toArray)) }
  refine wpAny_bind (wpAny_load (get?_update_seq (Heap.get?_push_size _ rfl) _) ?_)
  show wpAny _ _ (pure ((#[] : Array Value) ++ vs.toArray).toList) Q E _
  rw [show ((#[] : Array Value) ++ vs.toArray).toList = vs by simp]
  exact wpAny_pure h
theorem sorted_tupN {l : Addr} {vs : List Value} {ltv : Value → Value → Bool} {Q : Value → Shared → Prop} (O : Swo ltv) (hl : IsTup s.heap l vs.toArray) (hz : vs.length ≤ sizeLine)
    (hS : 2 ≤ vs.length → ∀ (h₁ : Heap) (a : Addr), h₁.get? a = some (seqObj "list" vs.toArray 0) → (∀ b o, s.heap.get? b = some o → b ≠ a ∧ h₁.get? b = some o) → SortableO prog w A.in1.in1 { s with heap := h₁ } a vs ltv)
    (h : ∀ out : List Value, Srtd ltv out → Stb ltv out vs → Q (.ref (s.heap.objs.size + 1)) { s with heap := sortedAll s.heap vs out.toArray }) :
    wpAny (model prog w) A (call (.builtin "sorted") [.ref l]) Q E s := by
  refine Calls.call_function_entry kind_sorted plain_sorted entry_sorted (args_sorted1 _) ?_
  unfold Builtin.«sorted»
  refine wpAny_bind (m := checkCount "sorted" 1 1 _) (wpAny_pure ?_)
  refine wpAny_bind (collect_tupN hl ?_ hz)
  refine wpAny_bind (wpAny_newList ?_ hz)
  have hsz : ((s.heap.push (seqObj "list" #[] 0)).update s.heap.objs.size (Obj.mapSeq (· ++ vs.toArray))).objs.size = s.heap.objs.size + 1 := by
    rw [Heap.size_update, size_push']
  have hoL : (((s.heap.push (seqObj "list" #[] 0)).update s.heap.objs.size (Obj.mapSeq (· ++ vs.toArray))).push (seqObj "list" vs.toArray 0)).get? (s.heap.objs.size + 1) = some (seqObj "list" vs.toArray 0) := by
    rw [← hsz]; exact Heap.get?_push_size _ rfl
  have keep : ∀ b o, s.heap.get? b = some o → b ≠ s.heap.objs.size + 1 ∧ (((s.heap.push (seqObj "list" #[] 0)).update s.heap.objs.size (Obj.mapSeq (· ++ vs.toArray))).push (seqObj "list" vs.toArray 0)).get? b = some o := fun b o q => by
    have hlt : b < s.heap.objs.size := Heap.lt_size q
    refine ⟨Nat.ne_of_lt (Nat.lt_succ_of_lt hlt), Heap.get?_push_of_some _ ?_⟩
    rw [Heap.get?_update_ne _ _ _ _ (Nat.ne_of_lt hlt)]
    exact Heap.get?_push_of_some _ q
  show wpAny _ _ _ _ _ { s with heap := ((s.heap.push (seqObj "list" #[] 0)).update s.heap.objs.size (Obj.mapSeq (· ++ vs.toArray))).push (seqObj "list" vs.toArray 0) }
  rw [hsz]
  refine wpAny_bind (wpAny_holding (wpAny_call_entry slot_list_sort ⟨_, hoL, rfl⟩ entry_list_sort (list_sort_ord O hoL hz (fun h2 => hS h2 _ _ hoL keep) fun out hs hb => ⟨_, rfl, ?_⟩) (args_list_sort _)))
  exact wpAny_pure ⟨_, rfl, h out hs hb⟩
end
end SrtO
namespace N
open PySem L2 LamX
def rSortedIT (K : PySem.W.Frag) : List V → Hp → VK → Prop := fun vs H Q => ∃ (a : Addr) (ns : List Int), vs = [V.ref a] ∧ SqT K H a (ns.map V.int) ∧
  ∀ (ns' : List Int) (p : Addr), ns'.Perm ns → ns'.Pairwise (· ≤ ·) → H p = none → Q (.ref p) (upd H p (.lst (ns'.map V.int)))
theorem cr_sortedIT {X : Cx} : CallR X (.builtin "sorted") (rSortedIT X.K) := by
  intro pins s σ H vs us Q I r h
  obtain ⟨a, ns, rfl, hs, q⟩ := h
  obtain ⟨its, rv, hl, hz⟩ := I.tuple hs
  rw [Vals.ref1 r]
  have hi := rv.ints
  refine SrtO.sorted_tupN SrtO.swo_int hl (by rw [← rv.length]; exact hz) (fun h2 h₁ a' _ _ => SrtO.ints_sortable hi h2) fun out h1 h2 => ?_
  obtain ⟨k1, k2, k3⟩ := SrtO.ints_out hi h1 h2
  obtain ⟨ep, he'⟩ := PyProof.Rows.sortedAll_at s.heap its out.toArray
  have hlen : ((out.map SrtO.iv).map V.int).length ≤ sizeLine := by
    rw [List.length_map, k2.length_eq]
    rw [List.length_map] at hz
    exact hz
  exact ⟨.ref _, upd H (s.heap.objs.size + 1) (.lst ((out.map SrtO.iv).map V.int)), I.laid (t' := s.toks) (fun _ _ => PyProof.Rows.sortedAll_old) (Nat.le_succ _) ⟨hlen, out, ep, vals_of_ints k1, he'⟩, rfl, q _ _ k2 k3 (I.hok.fresh (Nat.le_succ _))⟩
/-- the numbers in order -/
def sortN (l : List Nat) : List Nat := l.mergeSort fun a b => decide (a ≤ b)
theorem sortN_perm (l : List Nat) : (sortN l).Perm l := List.mergeSort_perm _ _
theorem ints_unique {l m : List Int} (hl : l.Pairwise (· ≤ ·)) (hm : m.Pairwise (· ≤ ·)) (p : l.Perm m) : l = m := List.Perm.eq_of_pairwise (fun a b _ _ h1 h2 => Int.le_antisymm h1 h2) hl hm p
theorem sortN_int {l : List Nat} {ns : List Int} (hp : ns.Perm (l.map fun (n : Nat) => (n : Int))) (hs : ns.Pairwise (· ≤ ·)) : ns = (sortN l).map fun (n : Nat) => (n : Int) := by
  refine ints_unique hs ?_ (hp.trans ((sortN_perm l).map _).symm)
  rw [List.pairwise_map]
  have := List.pairwise_mergeSort (le := fun a b : Nat => decide (a ≤ b)) (fun a b c h1 h2 => by simp at *; omega) (fun a b => by simp; omega) l
  exact this.imp fun {a b} h => by simp at h; omega
theorem ev_sortedT {T : Tbl} {X : Cx} {δ : Sl} {a : Expr} {p pos : Pos} {l : List Nat} (B : Bn X.mg) (h : Ev T X a δ (.d (offD l))) (hg : Gl X "sorted" := by rfl) (hs : starEach [a] X.env = (false, eval a X.env) :: starEach [] X.env := by rfl) : Ev T X (.Call (.Name "sorted" p) [a] [] pos) δ (.d (natsD (sortN l))) := by
  refine ev_of (pe_callB cr_sortedIT hg B.sorted (by decide +kernel) (pa_cons (pe_best X) pa_nil hs) (he := hs) (hpl := by rfl)) fun S σ H ad Q k => h S σ H ad _ fun v H1 g r => ?_
  cases r with
  | tup hq ha =>
    have e := ha.ints
    subst e
    refine ⟨_, _, rfl, hq, fun ns p hp hs hn => ?_⟩
    have e := sortN_int hp hs
    subst e
    refine k _ _ (g.trans (Gr.new hn)) (Rp.lst (.inl ⟨((ad.grow g).sok).fresh hn, .inl upd_same⟩) ?_)
    have := RpA.of_ints (K := X.K) (S := S) (H := upd H1 p (.lst (((sortN l).map fun (n : Nat) => (n : Int)).map V.int))) ((sortN l).map fun (n : Nat) => (n : Int))
    rw [List.map_map] at this ⊢
    rw [List.map_map] at this
    exact this
end N

namespace N
open PySem L2 LamX
/-- a is none of H's objects, but for tables -/
def Nw (H : Hp) (a : Addr) : Prop := ∀ o, H a = some o → ∃ ps, o = .tbl ps
section
variable {K : PySem.W.Frag} {T : Tbl} {M S S' : Addr → Prop} {H H' : Hp} {σ : L2.St} {δ : Sl} {C x pl a : Addr} {s : IS} {n : Nat}
theorem Nw.of (h : H a = none) : Nw H a := fun o e => by rw [h] at e; cases e
theorem Nw.back (g : Gm M T H H') (sm : Sok M H) (h : Nw H' a) : Nw H a := fun o e => by
  by_cases q : ∃ ps, o = .tbl ps
  · exact q
  · have q' : ∀ ps, o ≠ .tbl ps := fun ps z => q ⟨ps, z⟩
    by_cases m : M a
    · obtain ⟨o', e', m'⟩ := g.mt sm a m
      obtain ⟨ps, rfl⟩ := h o' e'
      exact m'.elim
    · obtain ⟨ps, z⟩ := h o (g.kp a o e q' m)
      exact ⟨ps, z⟩
theorem SL.moreN {xs : List V} (hs : ∀ b, S' b → S b ∨ Nw H b) (h : SL K S H a xs) : SL K S' H a xs := by
  rcases h with ⟨n, h⟩ | h
  · refine .inl ⟨fun z => ?_, h⟩
    rcases hs a z with z | z
    · exact n z
    · rcases h with h | ⟨o, h⟩ <;> (obtain ⟨ps, q⟩ := z _ h; cases q)
  · exact .inr h
theorem Rp.moreN (hs : ∀ b, S' b → S b ∨ Nw H b) {v : V} {d : PyData} (h : Rp K S H v d) : Rp K S' H v d := h.keep (fun _ _ => SL.moreN hs) fun _ _ h => h
theorem RE.moreN (hs : ∀ b, S' b → S b ∨ Nw H b) {v : V} {e : E} (h : RE K S H v e) : RE K S' H v e := by
  cases e with
  | d p => exact Rp.moreN hs h
  | rf a => exact h
  | ob x C fds nm =>
    obtain ⟨h1, dx, fs, h2, h3, h4⟩ := h
    refine ⟨h1, dx, fs, h2, fun f p q => ?_, h4⟩
    obtain ⟨u, a, b⟩ := h3 f p q
    exact ⟨u, a, b.moreN hs⟩
theorem SD.moreN (hs : ∀ b, S' b → S b ∨ Nw H b) (h : SD K S H σ δ) : SD K S' H σ δ := ⟨h.len, fun i e q => by
  obtain ⟨v, a, b⟩ := h.at' i e q
  exact ⟨v, a, b.moreN hs⟩⟩
theorem InnAt.moreN (h : InnAt K S H C x pl s n) (h1 : ∀ b, S b → S' b) (hs : ∀ b, S' b → S b ∨ Nw H b) : InnAt K S' H C x pl s n := by
  obtain ⟨dx, u1, u2, u3, u4, xs, q1, q2, h3, r1, r2, r3, r4⟩ := h.at'
  exact ⟨h1 _ h.sx, h1 _ h.sp, dx, u1, u2, u3, u4, xs, q1, q2, h3, r1.moreN hs, r2.moreN hs, r3.moreN hs, r4.moreN hs⟩
/-- new objects may be written; behind, they are Mt -/
theorem Ad.newS (h : Ad K T S H σ δ) (hst : stb δ = true) (hM : ∀ b, M b → S b) (g : Gm M T H H') (h1 : ∀ b, S b → S' b) (hs : ∀ b, S' b → S b ∨ Nw H b) (sk : Sok S' H') : Ad K T S' H' σ δ := by
  have sm : Sok M H := fun b hb => h.sok b (hM b hb)
  refine ⟨sk, g.tb h.tab, h.sd.len, fun i e q => ?_⟩
  obtain ⟨v, e1, e2⟩ := h.sd.at' i e q
  unfold stb at hst
  rw [List.all_eq_true] at hst
  exact ⟨v, e1, RE.gm g (fun b hb => h1 b (hM b hb)) sm (hst _ (List.mem_of_getElem? q)) (e2.moreN hs)⟩
theorem InnAt.newS (h : InnAt K S H C x pl s n) (sk : Sok S H) (hM : ∀ b, M b → S b) (nx : ¬ M x) (np : ¬ M pl) (g : Gm M T H H') (h1 : ∀ b, S b → S' b) (hs : ∀ b, S' b → S b ∨ Nw H b) : InnAt K S' H' C x pl s n := by
  have h' := h.moreN h1 hs
  obtain ⟨dx, u1, u2, u3, u4, xs, q1, q2, h3, r1, r2, r3, r4⟩ := h'.at'
  have sm : Sok M H := fun b hb => sk b (hM b hb)
  have hM' : ∀ b, M b → S' b := fun b hb => h1 b (hM b hb)
  exact ⟨h'.sx, h'.sp, dx, u1, u2, u3, u4, xs, g.kp _ _ q1 (fun ps z => by cases z) nx, g.kp _ _ q2 (fun ps z => by cases z) np, h3, Rp.gm g hM' sm r1, Rp.gm g hM' sm r2, Rp.gm g hM' sm r3, Rp.gm g hM' sm r4⟩
end
/-! steps, each told with what follows it (so that the kernel need not unfold) -/
section
variable {te : TE} {g : TG} {i : Nat} {c : L2.TT} {t t' u : TS} {D : Ends} {σ : L2.St} {H : Hp}
theorem seq_drop (h : te σ H fun _ H1 => u D σ H1) : tSeq (tDrop te) u D σ H := h
theorem seq_set (h : te σ H fun x H1 => u D (σ.set i (some x)) H1) : tSeq (tAsg te (gName i)) u D σ H := h
theorem seq_tg (h : te σ H fun x H1 => g x σ H1 (u D)) : tSeq (tAsg te g) u D σ H := h
theorem seq_if (h : c σ H fun b H1 => if b = true then t { D with nx := u D } σ H1 else t' { D with nx := u D } σ H1) : tSeq (tIfS c t t') u D σ H := h
theorem seq_nil (h : u D σ H) : tNext { D with nx := u D } σ H := h
theorem seq_fld {X : Cx} {T : Tbl} {S : Addr → Prop} {δ : Sl} {o e : Expr} {f : Str} {r : E} {x C dx : Addr} {fs : List (Str × V)} {δ' : Sl} (ad : Ad X.K T S H σ δ) (ad' : Ad X.K T S H σ δ')
    (ho : Ev T X o δ (.rf x)) (hv : Ev T X e δ' r) (hr : stbE (some r) = true) (hS : S x) (hH : H x = some (.ins C dx fs)) (hl : fs.length < 1000) (cl : Cls X.K C) (na : NoAttr X.K C f)
    (k : ∀ v H', Gm (One x) T H H' → H' x = some (.ins C dx (putF f v fs)) → RE X.K S H' v r → Sok S H' → u D σ H') : tSeq (sFld X.K (tB X o) (tB X e) f) u D σ H := seq_id (fld_run ad ad' ho hv hr hS hH hl cl na k)
end
abbrev With (S : Addr → Prop) (a : Addr) : Addr → Prop := fun b => S b ∨ b = a
def spInit (K : PySem.W.Frag) (T : Tbl) (C : Addr) : Sp := fun vs H Q _ => ∃ (S : Addr → Prop) (x dx : Addr) (u : V) (h : List Int), vs = [.ref x, u] ∧ Sok S H ∧ Tabs T H ∧ S x ∧ H x = some (.ins C dx []) ∧ Rp K S H u (houseD h) ∧ HouseOk h ∧
  ∀ (pl : Addr) (H' : Hp), Nw H pl → Gm (One x) T H H' → Sok (With S pl) H' → InnAt K (With S pl) H' C x pl ⟨h, [], [], []⟩ 0 → Q .non H'
theorem sc_init : FnScope ["self", "house"] ["self", "house"] (defScope (sM 0)) := ⟨rfl, rfl, rfl, by decide +kernel, rfl, by decide +kernel, by decide +kernel⟩
theorem fld_id {ta tv : TE} {K : PySem.W.Frag} {f : Str} {D : Ends} {σ : L2.St} {H : Hp} (h : tv σ H fun y H1 => ta σ H1 fun x H2 => ∃ a C dx fs, x = .ref a ∧ H2 a = some (.ins C dx fs) ∧ Cls K C ∧ NoAttr K C f ∧ fs.length < 1000 ∧ D.nx σ (L2.upd H2 a (.ins C dx (putF f y fs)))) : sFld K ta tv f D σ H := h
section
variable {P : Program} {w : World} {K : PySem.W.Frag} {mg : Str → Option Value} {base : Heap} {T : Tbl} {C f : Addr} {fd : FuncData}
theorem ok_init (F : Fun K "__init__" "Inn.__init__" (sM 0) f fd) (I : ITx K C) (D1 : Dfn P w K mg base "need_house" 5 ["thing"] (sp_need_house K T)) : FnOk P w K mg base CX0 6 f fd ["self", "house"] (spInit K T C) := by
  refine F.ok sc_init (fun vs H Q E h => ?_) fun cdv A outer s0 H vs Q E hr h => ?_
  · obtain ⟨S, x, dx, u, h, rfl, _⟩ := h
    rfl
  obtain ⟨S, x, dx, u, h, rfl, sk, tb, sx, hx, ru, hh, q⟩ := h
  refine ⟨_, pss_cons (ps_expr (pe_best _)) (pss_cons (ps_fld (pe_best _) (pe_best _) rfl) (pss_cons (ps_fld (pe_best _) (pe_best _) rfl) (pss_cons (ps_fld (pe_best _) (pe_best _) rfl) (pss_cons (ps_fld (pe_best _) (pe_best _) rfl) (pss_one (ps_fld (pe_best _) (pe_lst pa_nil) rfl)))))), ?_⟩
  have hM : ∀ b, One x b → S b := fun b e => by rw [e]; exact sx
  have ad : Ad K T S H (L2.start ["self", "house"] [.ref x, u]) [some (.rf x), some (.d (houseD h))] := ⟨sk, tb, SD.start (es := [.rf x, .d (houseD h)]) (.cons rfl (.cons ru .nil))⟩
  generalize L2.start ["self", "house"] [V.ref x, u] = σ at ad ⊢
  refine seq_drop (Ev.run (T := T) (r := .d .none) (ev_callI D1 (hr.mono (by decide)) h (eva_cons (ev_n 1) eva_nil) hh rfl) ad fun v0 H0 g0 _ => ?_)
  have ad0 := ad.grow g0
  have hx0 : H0 x = some (.ins C dx []) := g0.1 _ _ hx (fun ps z => by cases z)
  refine seq_fld (r := .d (houseD h)) ad0 ad0 (ev_n 0) (ev_n 1) rfl sx hx0 (by show 0 < 1000; decide) I.cl I.nH fun v1 H1 g1 hx1 r1 s1 => ?_
  have ad1 := ad0.gm rfl hM g1
  refine seq_fld (r := .d (.tuple [])) ad1 ad1 (ev_n 0) (ev_tup evd_nil) rfl sx hx1 (by show 1 < 1000; decide) I.cl I.nB fun v2 H2 g2 hx2 r2 s2 => ?_
  have ad2 := ad1.gm rfl hM g2
  have l2 : (putF "own_booked" v2 (putF "house" v1 [])).length < 1000 := by simp only [putF, if_neg n01]; show 2 < 1000; decide
  refine seq_fld (r := .d (.tuple [])) ad2 ad2 (ev_n 0) (ev_tup evd_nil) rfl sx hx2 l2 I.cl I.nO fun v3 H3 g3 hx3 r3 s3 => ?_
  have ad3 := ad2.gm rfl hM g3
  have l3 : (putF "own_off" v3 (putF "own_booked" v2 (putF "house" v1 []))).length < 1000 := by simp only [putF, if_neg n01, if_neg n02, if_neg n12]; show 3 < 1000; decide
  refine seq_fld (r := .d (.tuple [])) ad3 ad3 (ev_n 0) (ev_tup evd_nil) rfl sx hx3 l3 I.cl I.nR fun v4 H4 g4 hx4 r4 s4 => ?_
  have ad4 := ad3.gm rfl hM g4
  have l4 : (putF "own_rooms" v4 (putF "own_off" v3 (putF "own_booked" v2 (putF "house" v1 [])))).length < 1000 := by simp only [putF, if_neg n01, if_neg n02, if_neg n12, if_neg n03, if_neg n13, if_neg n23]; show 4 < 1000; decide
  have sm : ∀ {Hz : Hp}, Sok S Hz → Sok (One x) Hz := fun z b hb => z b (hM b hb)
  dsimp only
  unfold sFld
  refine ⟨Nat.zero_le _, fun pl hpl => ?_⟩
  have gn : Gr T H4 (L2.upd H4 pl (.lst [])) := Gr.new hpl
  refine Ev.run (T := T) (r := .rf x) (ev_n 0) (ad4.grow gn) fun o H5 g5 r5 => ?_
  obtain rfl : o = .ref x := r5
  have hx5 := g5.1 _ _ (gn.1 _ _ hx4 (fun ps z => by cases z)) (fun ps z => by cases z)
  have hp5 : H5 pl = some (.lst []) := g5.1 _ _ upd_same (fun ps z => by cases z)
  refine ⟨x, C, dx, _, rfl, hx5, I.cl, I.nP, l4, ?_⟩
  have npx : pl ≠ x := fun e => by rw [e, hx5] at hp5; cases hp5
  have g14 : Gm (One x) T H H4 := (((Gm.of g0).trans g1).trans g2).trans (g3.trans g4)
  have g5' : Gm (One x) T H4 (L2.upd H5 x (.ins C dx (putF "past" (.ref pl) (putF "own_rooms" v4 (putF "own_off" v3 (putF "own_booked" v2 (putF "house" v1 [])))))) ) := (Gm.of (gn.trans g5)).trans (Gm.upd rfl hx5 trivial trivial)
  have hN4 : Nw H4 pl := Nw.of hpl
  have hs : ∀ b, With S pl b → S b ∨ Nw H4 b := fun b hb => hb.imp id fun e => by rw [e]; exact hN4
  have hM' : ∀ b, One x b → With S pl b := fun b hb => .inl (hM b hb)
  have fin : ∀ {v : V} {d : PyData}, Rp K S H4 v d → Rp K (With S pl) (L2.upd H5 x (.ins C dx (putF "past" (.ref pl) (putF "own_rooms" v4 (putF "own_off" v3 (putF "own_booked" v2 (putF "house" v1 [])))))) ) v d := fun r => Rp.gm g5' hM' (sm s4) (r.moreN hs)
  have sk5 : Sok S (L2.upd H5 x (.ins C dx (putF "past" (.ref pl) (putF "own_rooms" v4 (putF "own_off" v3 (putF "own_booked" v2 (putF "house" v1 [])))))) ) := s4.gm g5' hM
  refine q pl _ (Nw.back g14 (sm sk) hN4) (g14.trans g5') (fun b hb => ?_) ⟨.inl sx, .inr rfl, dx, v1, v2, v3, v4, [], ?_, ?_, Nat.le_refl _, ?_, ?_, ?_, ?_⟩
  · rcases hb with hb | hb
    · exact sk5 b hb
    · rw [hb, upd_ne npx]
      exact ⟨_, hp5, trivial⟩
  · rw [upd_same, fs_put0]
  · rw [upd_ne npx]
    exact hp5
  · exact fin (RE.gm (e := .d (houseD h)) (g2.trans (g3.trans g4)) hM (sm s1) rfl r1)
  · exact fin (RE.gm (e := .d (.tuple [])) (g3.trans g4) hM (sm s2) rfl r2)
  · exact fin (RE.gm (e := .d (.tuple [])) g4 hM (sm s3) rfl r3)
  · exact fin r4
end
end N

namespace N
open PySem L2 LamX
def cancelI (s : IS) (n : Nat) : IS := ⟨s.h, s.bk, sortN (s.off ++ [n]), setRm s.rm n none⟩
def Two (x pl : Addr) : Addr → Prop := fun b => b = x ∨ b = pl
def spCancel (K : PySem.W.Frag) (T : Tbl) (C : Addr) : Sp := fun vs H Q _ => ∃ (S : Addr → Prop) (x pl : Addr) (s : IS) (m n : Nat), vs = [.ref x, .int (n : Int)] ∧ Sok S H ∧ Tabs T H ∧ InnAt K S H C x pl s m ∧ m ≤ 1000 ∧ n ∈ numsL s ∧ s.rm.length = s.bk.length ∧ s.bk.length ≤ 1000 ∧ s.off.length ≤ 1000 ∧
  ∀ H' : Hp, Gm (Two x pl) T H H' → InnAt K S H' C x pl (cancelI s n) (m + 1) → Q .non H'
theorem sc_cancel : FnScope ["self", "number"] ["self", "number"] (defScope (sM 7)) := ⟨rfl, rfl, rfl, by decide +kernel, rfl, by decide +kernel, by decide +kernel⟩
structure MdI (P : Program) (w : World) (K : PySem.W.Frag) (mg : Str → Option Value) (base : Heap) (C : Addr) (m : Str) (k : Nat) (ps : List Str) (sp : Sp) : Prop where
  ex : ∃ (f : Addr) (fd : FuncData), FnOk P w K mg base CX0 k f fd ps sp ∧ Meth K C m f ∧ Binds K fd ps []
/-- the slots know the inn -/
theorem InnAt.ad {K : PySem.W.Frag} {T : Tbl} {S : Addr → Prop} {H : Hp} {σ : L2.St} {δ : Sl} {C x pl : Addr} {s : IS} {n : Nat} (h : InnAt K S H C x pl s n) (ad : Ad K T S H σ δ) (i : Nat) (hi : δ[i]? = some (some (.rf x))) : Ad K T S H σ (δ.set i (some (innE C x s))) := ad.know i (ad.rf i hi) h.re
section
variable {K : PySem.W.Frag} {T : Tbl} {S : Addr → Prop} {H H' : Hp} {C x pl : Addr} {s : IS} {n : Nat}
/-- a field of the inn is written -/
theorem InnAt.putB {dx : Addr} {u1 u2 u3 u4 v : V} {xs : List V} {bk : List Stay} (h : InnAt K S H C x pl s n) (sk : Sok S H) (e1 : H x = some (.ins C dx (fsOf u1 u2 u3 u4 (.ref pl)))) (g : Gm (One x) T H H') (hx : H' x = some (.ins C dx (putF "own_booked" v (fsOf u1 u2 u3 u4 (.ref pl))))) (r : Rp K S H' v (staysD bk)) : InnAt K S H' C x pl { s with bk := bk } n := by
  obtain ⟨dx', v1, v2, v3, v4, xs, h1, h2, h3, r1, r2, r3, r4⟩ := h.at'
  rw [e1] at h1
  simp only [Option.some.injEq, HO.ins.injEq, fsOf, List.cons.injEq, Prod.mk.injEq, true_and] at h1
  obtain ⟨rfl, rfl, rfl, rfl, rfl, _⟩ := h1
  have hM : ∀ b, One x b → S b := fun b e => by rw [e]; exact h.sx
  have sm : Sok (One x) H := fun b hb => sk b (hM b hb)
  exact ⟨h.sx, h.sp, dx, _, v, _, _, xs, by rw [hx, fs_put1], g.kp _ _ h2 (fun ps z => by cases z) (fun z => h.ne z), h3, Rp.gm g hM sm r1, r, Rp.gm g hM sm r3, Rp.gm g hM sm r4⟩
theorem InnAt.putO {dx : Addr} {u1 u2 u3 u4 v : V} {xs : List V} {off : List Nat} (h : InnAt K S H C x pl s n) (sk : Sok S H) (e1 : H x = some (.ins C dx (fsOf u1 u2 u3 u4 (.ref pl)))) (g : Gm (One x) T H H') (hx : H' x = some (.ins C dx (putF "own_off" v (fsOf u1 u2 u3 u4 (.ref pl))))) (r : Rp K S H' v (offD off)) : InnAt K S H' C x pl { s with off := off } n := by
  obtain ⟨dx', v1, v2, v3, v4, xs, h1, h2, h3, r1, r2, r3, r4⟩ := h.at'
  rw [e1] at h1
  simp only [Option.some.injEq, HO.ins.injEq, fsOf, List.cons.injEq, Prod.mk.injEq, true_and] at h1
  obtain ⟨rfl, rfl, rfl, rfl, rfl, _⟩ := h1
  have hM : ∀ b, One x b → S b := fun b e => by rw [e]; exact h.sx
  have sm : Sok (One x) H := fun b hb => sk b (hM b hb)
  exact ⟨h.sx, h.sp, dx, _, _, v, _, xs, by rw [hx, fs_put2], g.kp _ _ h2 (fun ps z => by cases z) (fun z => h.ne z), h3, Rp.gm g hM sm r1, Rp.gm g hM sm r2, r, Rp.gm g hM sm r4⟩
theorem InnAt.putR {dx : Addr} {u1 u2 u3 u4 v : V} {xs : List V} {rm : List (Option Int)} (h : InnAt K S H C x pl s n) (sk : Sok S H) (e1 : H x = some (.ins C dx (fsOf u1 u2 u3 u4 (.ref pl)))) (g : Gm (One x) T H H') (hx : H' x = some (.ins C dx (putF "own_rooms" v (fsOf u1 u2 u3 u4 (.ref pl))))) (r : Rp K S H' v (toldD rm)) : InnAt K S H' C x pl { s with rm := rm } n := by
  obtain ⟨dx', v1, v2, v3, v4, xs, h1, h2, h3, r1, r2, r3, r4⟩ := h.at'
  rw [e1] at h1
  simp only [Option.some.injEq, HO.ins.injEq, fsOf, List.cons.injEq, Prod.mk.injEq, true_and] at h1
  obtain ⟨rfl, rfl, rfl, rfl, rfl, _⟩ := h1
  have hM : ∀ b, One x b → S b := fun b e => by rw [e]; exact h.sx
  have sm : Sok (One x) H := fun b hb => sk b (hM b hb)
  exact ⟨h.sx, h.sp, dx, _, _, _, v, xs, by rw [hx, fs_put3], g.kp _ _ h2 (fun ps z => by cases z) (fun z => h.ne z), h3, Rp.gm g hM sm r1, Rp.gm g hM sm r2, Rp.gm g hM sm r3, r⟩
theorem InnAt.fs (h : InnAt K S H C x pl s n) : ∃ dx u1 u2 u3 u4, H x = some (.ins C dx (fsOf u1 u2 u3 u4 (.ref pl))) := by
  obtain ⟨dx, v1, v2, v3, v4, xs, h1, _⟩ := h.at'
  exact ⟨dx, v1, v2, v3, v4, h1⟩
theorem fsOf_len (u1 u2 u3 u4 u5 : V) : (fsOf u1 u2 u3 u4 u5).length < 1000 := by show 5 < 1000; decide
theorem fsOf_no {u1 u2 u3 u4 u5 : V} {m : Str} (hm : m ∉ innN) : (fsOf u1 u2 u3 u4 u5).lookup m = none := by
  unfold innN at hm
  simp only [List.mem_cons, not_or, List.not_mem_nil, not_false_eq_true, and_true] at hm
  obtain ⟨m1, m2, m3, m4, m5⟩ := hm
  unfold fsOf
  rw [lk_cons, if_neg m1, lk_cons, if_neg m2, lk_cons, if_neg m3, lk_cons, if_neg m4, lk_cons, if_neg m5]
  rfl
end
/-- self.own_off = e and the like -/
theorem inn_off {X : Cx} {T : Tbl} {S : Addr → Prop} {δ δ' : Sl} {σ : L2.St} {H : Hp} {D : Ends} {o e : Expr} {C x pl : Addr} {s : IS} {n : Nat} {off : List Nat} (inn : InnAt X.K S H C x pl s n) (I : ITx X.K C) (ad : Ad X.K T S H σ δ) (ad' : Ad X.K T S H σ δ')
    (ho : Ev T X o δ (.rf x)) (hv : Ev T X e δ' (.d (offD off))) (k : ∀ H', Gm (One x) T H H' → InnAt X.K S H' C x pl { s with off := off } n → D.nx σ H') : sFld X.K (tB X o) (tB X e) "own_off" D σ H := by
  obtain ⟨dx, u1, u2, u3, u4, h1⟩ := inn.fs
  exact fld_run ad ad' ho hv rfl inn.sx h1 (fsOf_len _ _ _ _ _) I.cl I.nO fun v H' g hx r sk => k H' g (inn.putO (xs := []) ad.sok h1 g hx r)
theorem inn_bk {X : Cx} {T : Tbl} {S : Addr → Prop} {δ δ' : Sl} {σ : L2.St} {H : Hp} {D : Ends} {o e : Expr} {C x pl : Addr} {s : IS} {n : Nat} {bk : List Stay} (inn : InnAt X.K S H C x pl s n) (I : ITx X.K C) (ad : Ad X.K T S H σ δ) (ad' : Ad X.K T S H σ δ')
    (ho : Ev T X o δ (.rf x)) (hv : Ev T X e δ' (.d (staysD bk))) (k : ∀ H', Gm (One x) T H H' → InnAt X.K S H' C x pl { s with bk := bk } n → D.nx σ H') : sFld X.K (tB X o) (tB X e) "own_booked" D σ H := by
  obtain ⟨dx, u1, u2, u3, u4, h1⟩ := inn.fs
  exact fld_run ad ad' ho hv rfl inn.sx h1 (fsOf_len _ _ _ _ _) I.cl I.nB fun v H' g hx r sk => k H' g (inn.putB (xs := []) ad.sok h1 g hx r)
theorem inn_rm {X : Cx} {T : Tbl} {S : Addr → Prop} {δ δ' : Sl} {σ : L2.St} {H : Hp} {D : Ends} {o e : Expr} {C x pl : Addr} {s : IS} {n : Nat} {rm : List (Option Int)} (inn : InnAt X.K S H C x pl s n) (I : ITx X.K C) (ad : Ad X.K T S H σ δ) (ad' : Ad X.K T S H σ δ')
    (ho : Ev T X o δ (.rf x)) (hv : Ev T X e δ' (.d (toldD rm))) (k : ∀ H', Gm (One x) T H H' → InnAt X.K S H' C x pl { s with rm := rm } n → D.nx σ H') : sFld X.K (tB X o) (tB X e) "own_rooms" D σ H := by
  obtain ⟨dx, u1, u2, u3, u4, h1⟩ := inn.fs
  exact fld_run ad ad' ho hv rfl inn.sx h1 (fsOf_len _ _ _ _ _) I.cl I.nR fun v H' g hx r sk => k H' g (inn.putR (xs := []) ad.sok h1 g hx r)

theorem keep_run {X : Cx} {T : Tbl} {S : Addr → Prop} {δ : Sl} {σ : L2.St} {H : Hp} {Q : VK} {o : Expr} {C x pl : Addr} {s : IS} {n : Nat} {apos pos : Pos} (D : Mdn X.prog X.w X.K X.mg X.base C "keep" 1 ["self"] (spKeep X.K T C)) (I : ITx X.K C) (hr : Room 1 X.A) (ad : Ad X.K T S H σ δ) (ho : Ev T X o δ (.rf x))
    (inn : InnAt X.K S H C x pl s n) (hn : n ≤ 1000) (k : ∀ H', Gm (One pl) T H H' → InnAt X.K S H' C x pl s (n + 1) → Q .non H') {pv : Sem Bool}
    (he : eval (.Call (.Attribute o "keep" apos) [] [] pos) X.env = (do
      let ov ← eval o X.env
      standAt apos.atName
      let (f, first) ← holding [ov] (getMethod ov "keep" pv)
      callWith pos f first (backTo pos (starEach [] X.env)) (backToKw pos (keywordEach [] X.env))) := by rfl) : tB X (.Call (.Attribute o "keep" apos) [] [] pos) σ H Q := fun pins s' I' => by
  obtain ⟨f, fd, F, hm, hb⟩ := D.ex
  refine (pe_meth0 (pl := pv) (pe_best X) I.cl hm F hr hb .nil pass0 he).run pins s' σ H Q I' ?_
  refine ho.run ad fun y H1 g1 r1 => ?_
  obtain rfl : y = .ref x := r1
  have inn1 := inn.grow g1
  obtain ⟨dx, u1, u2, u3, u4, h1⟩ := inn1.fs
  exact ⟨x, dx, _, rfl, h1, fsOf_no (by decide), S, x, pl, s, n, rfl, (ad.grow g1).sok, (ad.grow g1).tab, inn1, hn, fun H2 g2 i2 => k H2 ((Gm.of g1).trans g2) i2⟩
theorem One.le {S : Addr → Prop} {a : Addr} (h : S a) : ∀ b, One a b → S b := fun b e => by rw [e]; exact h
section
variable {P : Program} {w : World} {K : PySem.W.Frag} {mg : Str → Option Value} {base : Heap} {T : Tbl} {C f : Addr} {fd : FuncData}
theorem ok_cancel (F : Fun K "cancel" "Inn.cancel" (sM 7) f fd) (B : Bn mg) (I : ITx K C) (D1 : Mdn P w K mg base C "need_kept" 3 ["self", "number"] (sp_need_kept K T C)) (D2 : Mdn P w K mg base C "keep" 1 ["self"] (spKeep K T C)) (D3 : Mdn P w K mg base C "with_room" 1 ["self", "number", "room"] (sp_with_room K T C)) : FnOk P w K mg base CX0 4 f fd ["self", "number"] (spCancel K T C) := by
  refine F.ok sc_cancel (fun vs H Q E h => ?_) fun cdv A outer s0 H vs Q E hr h => ?_
  · obtain ⟨S, x, pl, s, m, n, rfl, _⟩ := h
    rfl
  obtain ⟨S, x, pl, s, m, n, rfl, sk, tb, inn, hm, hn, hrm, hbk, hof, q⟩ := h
  refine ⟨_, pss_cons (ps_expr (pe_best _)) (pss_cons (ps_expr (pe_best _)) (pss_cons (ps_fld (pe_best _) (pe_best _) rfl) (pss_one (ps_fld (pe_best _) (pe_best _) rfl)))), ?_⟩
  have ad : Ad K T S H (L2.start ["self", "number"] [.ref x, .int (n : Int)]) [some (.rf x), some (.d (.int (n : Int)))] := ⟨sk, tb, SD.start (es := [.rf x, .d (.int (n : Int))]) (.cons rfl (.cons (Rp.int _) .nil))⟩
  generalize L2.start ["self", "number"] [V.ref x, V.int (n : Int)] = σ at ad ⊢
  refine seq_id (drop_id (Ev.run (T := T) (r := .d .none) (ev_methI D1 I.cl hr (x, s, n) (ev_n 0) (eva_cons (ev_n 1) eva_nil) (by decide) rfl hn rfl) (inn.ad ad 0 rfl) fun v0 H0 g0 _ => ?_))
  have ad0 := ad.grow g0
  have inn0 := inn.grow g0
  refine seq_id (drop_id (keep_run D2 I (hr.mono (by decide)) ad0 (ev_n 0) inn0 hm fun H1 g1 inn1 => ?_))
  have ad1 := ad0.gm rfl (One.le inn.sp) g1
  refine seq_id (inn_off (off := sortN (s.off ++ [n])) inn1 I ad1 (inn1.ad ad1 0 rfl) (ev_n 0) (ev_is (ev_tupL B (ev_sortedT (l := s.off ++ [n]) B (ev_is (ev_catT (ds := (s.off.map fun (n : Nat) => (n : Int)).map .int) (ds2 := [.int (n : Int)]) (ev_fld (C := C) (fs := innF s) (nm := innN) (y := x) (ev_n 0) I.cl I.nO rfl) (ev_tup (evd_cons (ev_n 1) evd_nil)) ?_) ?_))) ?_) fun H2 g2 inn2 => ?_)
  · simp
    omega
  · unfold offD
    simp
  · unfold offD
    simp
  have ad2 := ad1.gm rfl (One.le inn.sx) g2
  dsimp only
  refine inn_rm (rm := setRm s.rm n none) inn2 I ad2 (inn2.ad ad2 0 rfl) (ev_n 0) (ev_methI D3 I.cl (hr.mono (by decide)) (x, (⟨s.h, s.bk, sortN (s.off ++ [n]), s.rm⟩ : IS), n, none) (ev_n 0) (eva_cons (ev_n 1) (eva_cons ev_0 eva_nil)) (by decide) rfl ⟨?_, ?_⟩ rfl) fun H3 g3 inn3 => ?_
  · show n < s.rm.length
    rw [hrm]
    exact (numsL_mem.mp hn).1
  · show s.rm.length ≤ 1000
    omega
  have t1 : ∀ b, One x b → Two x pl b := fun b e => .inl e
  have t2 : ∀ b, One pl b → Two x pl b := fun b e => .inr e
  have sT : ∀ {Hz : Hp}, Sok S Hz → Sok (Two x pl) Hz := fun z b hb => hb.elim (fun e => by rw [e]; exact z x inn.sx) fun e => by rw [e]; exact z pl inn.sp
  exact q _ ((((Gm.of g0).trans (Gm.le t2 (sT ad0.sok) g1)).trans (Gm.le t1 (sT ad1.sok) g2)).trans (Gm.le t1 (sT ad2.sok) g3)) inn3
end
end N

namespace L2
open PySem PySem.Spec PyProof.Rows
/-- X(), X an own exception class without own __init__ -/
theorem pmk_ownZ {X : Cx} {C : Addr} {bmB : List Value} {B newId initId : String} {x : Str} {p pos : Pos} (F : ExcBaseFacts B newId initId bmB) (q : PySem.W.excIn X.K C bmB newId = true) (gC : X.mg x = some (.ref C))
    (kC : PySem.W.keepIn X.K (.ref C) = true) (r : Raises X (.ref C)) (hg : Gl X x) (hdb : (x == ("__debug__" : Str)) = false := by decide) : PMk X (.Call (.Name x p) [] [] pos) (fun _ H Q => Q (.ref C) none H) := by
  intro pins s σ H Q I h
  refine wpAny_Call_Name_kw (ld_glob I hg gC ?_ hdb)
  refine PySem.W.callWith_K0 I.kIn kC ?_
  show wpAny _ _ (call (.ref C) []) _ _ _
  obtain ⟨bm, N, nm, qn, bs, hdct, sn, sub, ab, col, dd, k0, k1, k2, k3, k5, mN, hC, hN, hni, T⟩ := exc_obj I.kIn q
  refine wpAny_call_exc_subT F T hC hN hni (fun h' e hm => ?_) (Nat.zero_le _)
  exact mk_of I hm r h (I.hok.gone hm.new)
end L2
namespace N
open PySem L2 LamX
/-- the class NotNow -/
structure NTx (K : PySem.W.Frag) (mg : Str → Option Value) (CN : Addr) : Prop where
  ex : PySem.W.excIn K CN [Value.type "ValueError", Value.type "Exception", Value.type "BaseException", Value.type "object"] "ValueError.__new__" = true
  gC : mg "NotNow" = some (.ref CN)
  kC : PySem.W.keepIn K (.ref CN) = true
  sb : PySem.W.subIn K (.ref CN) (.type "BaseException") = some true
  ty : PySem.W.typeIn K (.ref CN) = some (.type "type")
def bookI (s : IS) (st : Stay) : IS := ⟨s.h, s.bk ++ [st], s.off, s.rm ++ [none]⟩
def mayB (s : IS) (st : Stay) : Bool := !(decide ((keptL s).length = 8)) && fitsB s.h (keptL s ++ [st])
/-- what is true of every inn -/
structure IOk (s : IS) (n : Nat) : Prop where
  h : HouseOk s.h
  rm : s.rm.length = s.bk.length
  bk : s.bk.length ≤ n
  off : s.off.length ≤ n
  st : Stays s.bk
  k8 : (numsL s).length ≤ 8
  fit : fitsB s.h (keptL s) = true
  rr : ∀ r, some r ∈ s.rm → 0 ≤ r ∧ r < (s.h.length : Int)
theorem IOk.kept {s : IS} {n : Nat} (h : IOk s n) : Stays (keptL s) := fun x hx => by
  unfold keptL at hx
  obtain ⟨m, hm, rfl⟩ := List.mem_map.mp hx
  have := (numsL_mem.mp hm).1
  rw [List.getD_eq_getElem?_getD, List.getElem?_eq_getElem this]
  exact h.st _ (List.getElem_mem _)
theorem kept_len (s : IS) : (keptL s).length = (numsL s).length := by unfold keptL; rw [List.length_map]
theorem rooms_len (s : IS) : (roomsL s).length = (numsL s).length := by unfold roomsL; rw [List.length_map]
def spBook (K : PySem.W.Frag) (T : Tbl) (C CN : Addr) : Sp := fun vs H Q E => ∃ (S : Addr → Prop) (x pl : Addr) (s : IS) (m : Nat) (u : V) (st : Stay), vs = [.ref x, u] ∧ Sok S H ∧ Tabs T H ∧ InnAt K S H C x pl s m ∧ m ≤ 900 ∧ Rp K S H u (stayD st) ∧ StayOk st ∧ IOk s 900 ∧
  (mayB s st = true → ∀ H' : Hp, Gm (Two x pl) T H H' → InnAt K S H' C x pl (bookI s st) (m + 1) → Q (.int (s.bk.length : Int)) H') ∧ (mayB s st = false → ∀ H' : Hp, Gr T H H' → E (.ref CN) none H')
theorem staysD_app (l : List Stay) (s : Stay) : PyData.tuple (l.map stayD ++ [stayD s]) = staysD (l ++ [s]) := by unfold staysD; rw [List.map_append]; rfl
def putI (s : IS) (n : Nat) (r : Int) : IS := ⟨s.h, s.bk, s.off, setRm s.rm n (some r)⟩
def mayP (s : IS) (n : Nat) (r : Int) : Bool := (planWith s.h (keptL s) (roomsL (putI s n r))).isSome
def spPut (K : PySem.W.Frag) (T : Tbl) (C CN : Addr) : Sp := fun vs H Q E => ∃ (S : Addr → Prop) (x pl : Addr) (s : IS) (m n : Nat) (r : Int), vs = [.ref x, .int (n : Int), .int r] ∧ Sok S H ∧ Tabs T H ∧ InnAt K S H C x pl s m ∧ m ≤ 900 ∧ n ∈ numsL s ∧ r ∈ roomsOf s.h (s.bk.getD n (0, 0, 0)) ∧ IOk s 900 ∧
  (mayP s n r = true → ∀ H' : Hp, Gm (Two x pl) T H H' → InnAt K S H' C x pl (putI s n r) (m + 1) → Q .non H') ∧ (mayP s n r = false → ∀ H' : Hp, Gr T H H' → E (.ref CN) none H')
theorem setRm_len {rm : List (Option Int)} {n : Nat} {o : Option Int} (h : n < rm.length) : (setRm rm n o).length = rm.length := by
  unfold setRm
  simp
  omega
section
variable {X : Cx} {T : Tbl} {S : Addr → Prop} {δ δ' : Sl} {u : TS} {σ : L2.St} {H : Hp} {D : Ends} {o e : Expr} {C x pl : Addr} {s : IS} {n : Nat}
theorem seq_bk {bk : List Stay} (inn : InnAt X.K S H C x pl s n) (I : ITx X.K C) (ad : Ad X.K T S H σ δ) (ad' : Ad X.K T S H σ δ')
    (ho : Ev T X o δ (.rf x)) (hv : Ev T X e δ' (.d (staysD bk))) (k : ∀ H', Gm (One x) T H H' → InnAt X.K S H' C x pl { s with bk := bk } n → u D σ H') : tSeq (sFld X.K (tB X o) (tB X e) "own_booked") u D σ H := seq_id (inn_bk inn I ad ad' ho hv k)
theorem seq_off {off : List Nat} (inn : InnAt X.K S H C x pl s n) (I : ITx X.K C) (ad : Ad X.K T S H σ δ) (ad' : Ad X.K T S H σ δ')
    (ho : Ev T X o δ (.rf x)) (hv : Ev T X e δ' (.d (offD off))) (k : ∀ H', Gm (One x) T H H' → InnAt X.K S H' C x pl { s with off := off } n → u D σ H') : tSeq (sFld X.K (tB X o) (tB X e) "own_off") u D σ H := seq_id (inn_off inn I ad ad' ho hv k)
theorem seq_rm {rm : List (Option Int)} (inn : InnAt X.K S H C x pl s n) (I : ITx X.K C) (ad : Ad X.K T S H σ δ) (ad' : Ad X.K T S H σ δ')
    (ho : Ev T X o δ (.rf x)) (hv : Ev T X e δ' (.d (toldD rm))) (k : ∀ H', Gm (One x) T H H' → InnAt X.K S H' C x pl { s with rm := rm } n → u D σ H') : tSeq (sFld X.K (tB X o) (tB X e) "own_rooms") u D σ H := seq_id (inn_rm inn I ad ad' ho hv k)
end
section
variable {P : Program} {w : World} {K : PySem.W.Frag} {mg : Str → Option Value} {base : Heap} {T : Tbl}
theorem Fun.okX {x qual : Str} {st : Stmt} {f : Addr} {fd : FuncData} {N ps : List Str} {k : Nat} {sp : Sp} (F : Fun K x qual st f fd) (S : FnScope N ps (defScope st)) (len : ∀ vs H Q E, sp vs H Q E → vs.length = ps.length)
    (hbody : ∀ (cdv : Value) (A : Around) (outer : List Env) (s : Shared) (H : Hp) (vs : List V) (Q : VK) (E : XK), Room k (A.deeper (PyProof.Rows.envOfC qual (defScope st) s.heap.objs.size f cdv)) → sp vs H Q E →
      ∃ t, PSs (cxOf (L2.CX P w) P w K mg base N qual (defScope st) f cdv A outer s H E) (defBody st) t ∧ t { nx := fun _ H' => Q .non H', rt := Q } (L2.start N vs) H) : FnOk P w K mg base (L2.CX P w) (k + 1) f fd ps sp := by
  obtain ⟨oc, od, kV, doc, pm, an, cd, ct, osl, rfl, lk, hcd⟩ := F.ex
  exact fn_of lk hcd S len fun A outer s H vs Q E hr h => hbody cd A outer s H vs Q E hr h
end
end N

namespace N
open PySem L2 LamX
theorem sc_book : FnScope ["self", "stay", "some"] ["self", "stay"] (defScope (sM 4)) := ⟨rfl, rfl, rfl, by decide +kernel, rfl, by decide +kernel, by decide +kernel⟩
section
variable {P : Program} {w : World} {K : PySem.W.Frag} {mg : Str → Option Value} {base : Heap} {T : Tbl} {C CN f : Addr} {fd : FuncData}
theorem ok_book (F : Fun K "book" "Inn.book" (sM 4) f fd) (B : Bn mg) (Cc : Cn mg) (I : ITx K C) (NT : NTx K mg CN) (D1 : Dfn P w K mg base "need_stay" 5 ["thing"] (sp_need_stay K T)) (D2 : Mdn P w K mg base C "kept" 2 ["self"] (sp_kept K T C)) (D3 : Dfn P w K mg base "fits_by" 4 ["house", "stays"] (sp_fits_by K T)) (D4 : Mdn P w K mg base C "keep" 1 ["self"] (spKeep K T C)) (hmk : ∃ t, mg "MOST_KEPT" = some (.int 8 t)) :
    FnOk P w K mg base (L2.CX P w) 6 f fd ["self", "stay"] (spBook K T C CN) := by
  refine Fun.okX F sc_book (fun vs H Q E h => ?_) fun cdv A outer s0 H vs Q E hr h => ?_
  · obtain ⟨S, x, pl, s, m, u, st, rfl, _⟩ := h
    rfl
  obtain ⟨S, x, pl, s, m, u, st, rfl, sk, tb, inn, hm, ru, hst, iok, q1, q2⟩ := h
  refine ⟨_, pss_cons (ps_expr (pe_best _)) (pss_cons (ps_set (i := 2) sc_book.nd rfl (.inl rfl) (pe_best _)) (pss_cons (ps_if (pt_best _) (pss_one (L2.ps_raise rfl (L2.takes_of rfl rfl rfl rfl) (L2.pmk_ownZ PySem.F.excBase_ValueError NT.ex NT.gC NT.kC (L2.raises_own NT.sb NT.ty) rfl))) pss_nil) (pss_cons (ps_expr (pe_best _)) (pss_cons (ps_fld (pe_best _) (pe_best _) rfl) (pss_cons (ps_fld (pe_best _) (pe_best _) rfl) (pss_one (ps_ret (pe_best _)))))))), ?_⟩
  have ad : Ad K T S H (L2.start ["self", "stay", "some"] [.ref x, u]) [some (.rf x), some (.d (stayD st)), none] := ⟨sk, tb, SD.start (es := [.rf x, .d (stayD st)]) (.cons rfl (.cons ru .nil))⟩
  generalize L2.start ["self", "stay", "some"] [V.ref x, u] = σ at ad ⊢
  have hb9 := iok.bk
  have hk8 : (keptL s).length ≤ 8 := by rw [kept_len]; exact iok.k8
  refine seq_drop (Ev.run (T := T) (r := .d .none) (ev_callI D1 hr st (eva_cons (ev_n 1) eva_nil) hst rfl) ad fun v0 H0 g0 _ => ?_)
  have ad0 := ad.grow g0
  have inn0 := inn.grow g0
  refine seq_set (Ev.run (T := T) (r := .d (staysD (keptL s))) (ev_meth0I D2 I.cl (hr.mono (by decide)) (x, s) (ev_n 0) (by decide) rfl (by show s.bk.length ≤ 1000; omega) rfl) (inn0.ad ad0 0 rfl) fun v1 H1 g1 r1 => ?_)
  have ad1 := (ad0.grow g1).set 2 r1
  have inn1 := inn0.grow g1
  dsimp only
  refine seq_if ?_
  refine Evt.run (T := T) (b := !mayB s st) ?_ (inn1.ad ad1 0 rfl) fun H2 g2 => ?_
  · refine evt_is (evt_or (u := decide ((keptL s).length = 8)) (v := !fitsB s.h (keptL s ++ [st])) (evt_is (evt_eq (ev_lenT (ds := (keptL s).map stayD) B (ev_n 2)) (ev_gi hmk)) ?_) fun hu => evt_is (evt_neD (by have := hr.units; exact this) ?_ (ev_tup (ds := [.str "fits"]) (evd_cons ev_s evd_nil)) (fits_shaped s.h (keptL s ++ [st])) fits1_shaped) ?_) ?_
    · rw [List.length_map]
      exact decide_eq_decide.mpr (by omega)
    · refine ev_callI D3 (hr.mono (by decide)) (s.h, keptL s ++ [st]) (eva_cons (ev_fld (C := C) (fs := innF s) (nm := innN) (y := x) (ev_n 0) I.cl I.nH rfl) (eva_cons (r := .d (staysD (keptL s ++ [st]))) (ev_is (ev_catT (ds := (keptL s).map stayD) (ds2 := [stayD st]) (ev_n 2) (ev_tup (evd_cons (ev_n 1) evd_nil)) ?_) ?_) eva_nil)) ⟨?_, ?_, ?_⟩ rfl
      · rw [List.length_map]
        simp
        omega
      · rw [staysD_app]
      · have := iok.h.2.1
        show s.h.length ≤ 1000
        omega
      · simp
        omega
      · exact stays_app iok.kept hst
    · rw [fits_eqv]
    · unfold mayB
      cases decide ((keptL s).length = 8) <;> simp
  have inn2 := inn1.grow g2
  have ad2 := ad1.grow g2
  cases hmay : mayB s st with
  | false =>
    rw [if_pos (show (!false) = true from rfl)]
    exact q2 hmay _ ((g0.trans g1).trans g2)
  | true =>
    rw [if_neg (show ¬ ((!true) = true) by decide)]
    refine seq_nil ?_
    refine seq_drop (keep_run D4 I (hr.mono (by decide)) ad2 (ev_n 0) inn2 (by omega) fun H3 g3 inn3 => ?_)
    have ad3 := ad2.gm rfl (One.le inn.sp) g3
    refine seq_bk (bk := s.bk ++ [st]) inn3 I ad3 (inn3.ad ad3 0 rfl) (ev_n 0) (ev_is (ev_catT (ds := s.bk.map stayD) (ds2 := [stayD st]) (ev_fld (C := C) (fs := innF s) (nm := innN) (y := x) (ev_n 0) I.cl I.nB rfl) (ev_tup (evd_cons (ev_n 1) evd_nil)) ?_) ?_) fun H4 g4 inn4 => ?_
    · rw [List.length_map]
      simp
      omega
    · rw [staysD_app]
    have ad4 := ad3.gm rfl (One.le inn.sx) g4
    refine seq_rm (rm := s.rm ++ [none]) inn4 I ad4 (inn4.ad ad4 0 rfl) (ev_n 0) (ev_is (ev_catT (ds := s.rm.map optD) (ds2 := [.none]) (ev_fld (C := C) (fs := innF (⟨s.h, s.bk ++ [st], s.off, s.rm⟩ : IS)) (nm := innN) (y := x) (ev_n 0) I.cl I.nR rfl) (ev_tup (evd_cons ev_0 evd_nil)) ?_) ?_) fun H5 g5 inn5 => ?_
    · rw [List.length_map, iok.rm]
      simp
      omega
    · unfold toldD
      rw [List.map_append]
      rfl
    have ad5 := ad4.gm rfl (One.le inn.sx) g5
    refine ret_id (Ev.run (T := T) (r := .d (.int (s.bk.length : Int))) (ev_is (ev_sub (ev_lenT (ds := (s.bk ++ [st]).map stayD) B (ev_fld (C := C) (fs := innF (⟨s.h, s.bk ++ [st], s.off, s.rm ++ [none]⟩ : IS)) (nm := innN) (y := x) (ev_n 0) I.cl I.nB rfl)) ev_i) ?_) (inn5.ad ad5 0 rfl) fun v6 H6 g6 r6 => ?_)
    · rw [List.length_map, List.length_append]
      simp
    obtain rfl := Rp.int_inv r6
    have t1 : ∀ b, One x b → Two x pl b := fun b e => .inl e
    have t2 : ∀ b, One pl b → Two x pl b := fun b e => .inr e
    have sT : ∀ {Hz : Hp}, Sok S Hz → Sok (Two x pl) Hz := fun z b hb => hb.elim (fun e => by rw [e]; exact z x inn.sx) fun e => by rw [e]; exact z pl inn.sp
    exact q1 hmay _ (((((Gm.of ((g0.trans g1).trans g2)).trans (Gm.le t2 (sT ad2.sok) g3)).trans (Gm.le t1 (sT ad3.sok) g4)).trans (Gm.le t1 (sT ad4.sok) g5)).trans (Gm.of g6)) (inn5.grow g6)
end
end N

namespace N
open PySem L2 LamX
theorem sc_put : FnScope ["self", "number", "room", "later", "one"] ["self", "number", "room"] (defScope (sM 8)) := ⟨rfl, rfl, rfl, by decide +kernel, rfl, by decide +kernel, by decide +kernel⟩
section
variable {P : Program} {w : World} {K : PySem.W.Frag} {mg : Str → Option Value} {base : Heap} {T : Tbl} {C CN f : Addr} {fd : FuncData}
theorem ok_put (F : Fun K "put" "Inn.put" (sM 8) f fd) (B : Bn mg) (I : ITx K C) (NT : NTx K mg CN) (D1 : Mdn P w K mg base C "need_kept" 3 ["self", "number"] (sp_need_kept K T C)) (D2 : Dfn P w K mg base "is_among" 2 ["thing", "low", "high"] (sp_is_among K T)) (D3 : Dfn P w K mg base "may_sleep" 1 ["house", "stay", "room"] (sp_may_sleep K T))
    (D4 : Mdn P w K mg base C "with_room" 1 ["self", "number", "room"] (sp_with_room K T C)) (D5 : Mdn P w K mg base C "kept" 2 ["self"] (sp_kept K T C)) (D6 : Mdn P w K mg base C "numbers" 1 ["self"] (sp_numbers K T C)) (D7 : Dfn P w K mg base "plan_with" 7 ["house", "stays", "told"] (sp_plan_with K T)) (D8 : Mdn P w K mg base C "keep" 1 ["self"] (spKeep K T C)) :
    FnOk P w K mg base (L2.CX P w) 8 f fd ["self", "number", "room"] (spPut K T C CN) := by
  refine Fun.okX F sc_put (fun vs H Q E h => ?_) fun cdv A outer s0 H vs Q E hr h => ?_
  · obtain ⟨S, x, pl, s, m, n, r, rfl, _⟩ := h
    rfl
  obtain ⟨S, x, pl, s, m, n, r, rfl, sk, tb, inn, hm, hn, hrr, iok, q1, q2⟩ := h
  refine ⟨_, pss_cons (ps_expr (pe_best _)) (pss_cons (ps_if (pt_best _) (pss_best _) pss_nil) (pss_cons (ps_set (i := 3) sc_put.nd rfl (.inr rfl) (pe_best _)) (pss_cons (ps_if (pt_best _) (pss_one (L2.ps_raise rfl (L2.takes_of rfl rfl rfl rfl) (L2.pmk_ownZ PySem.F.excBase_ValueError NT.ex NT.gC NT.kC (L2.raises_own NT.sb NT.ty) rfl))) pss_nil) (pss_cons (ps_expr (pe_best _)) (pss_one (ps_fld (pe_best _) (pe_best _) rfl)))))), ?_⟩
  have ad : Ad K T S H (L2.start ["self", "number", "room", "later", "one"] [.ref x, .int (n : Int), .int r]) [some (.rf x), some (.d (.int (n : Int))), some (.d (.int r)), none, none] := ⟨sk, tb, SD.start (es := [.rf x, .d (.int (n : Int)), .d (.int r)]) (.cons rfl (.cons (Rp.int _) (.cons (Rp.int _) .nil)))⟩
  generalize L2.start ["self", "number", "room", "later", "one"] [V.ref x, V.int (n : Int), V.int r] = σ at ad ⊢
  have hb9 := iok.bk
  have hnl := (numsL_mem.mp hn).1
  have hrl : n < s.rm.length := by rw [iok.rm]; exact hnl
  have hk8 : (keptL s).length ≤ 8 := by rw [kept_len]; exact iok.k8
  have h5 := iok.h.2.1
  obtain ⟨hr1, hr2⟩ := roomsOf_may hrr
  refine seq_drop (Ev.run (T := T) (r := .d .none) (ev_methI D1 I.cl (hr.mono (by decide)) (x, s, n) (ev_n 0) (eva_cons (ev_n 1) eva_nil) (by decide) rfl hn rfl) (inn.ad ad 0 rfl) fun v0 H0 g0 _ => ?_)
  have ad0 := ad.grow g0
  have inn0 := inn.grow g0
  try dsimp only
  refine seq_if ?_
  refine Evt.run (T := T) (b := false) ?_ (inn0.ad ad0 0 rfl) fun H1 g1 => ?_
  · refine evt_is (evt_or (u := false) (v := false) (evt_is (evt_not (u := true) (evt_v ?_)) rfl) fun _ => evt_is (evt_not (u := true) (evt_v ?_)) rfl) rfl
    · refine ev_callI D2 (hr.mono (by decide)) (r, 0, (s.h.length : Int) - 1) (eva_cons (ev_n 2) (eva_cons ev_i (eva_cons (ev_is (ev_sub (ev_lenT (ds := s.h.map .int) B (ev_fld (C := C) (fs := innF s) (nm := innN) (y := x) (ev_n 0) I.cl I.nH rfl)) ev_i) (by rw [List.length_map])) eva_nil))) trivial ?_
      show N.E.d (.bool (amongB r 0 ((s.h.length : Int) - 1))) = _
      unfold amongB
      rw [decide_eq_true hr1.1, decide_eq_true (by omega : r ≤ (s.h.length : Int) - 1)]
      rfl
    · refine ev_callI D3 (hr.mono (by decide)) (s.h, s.bk.getD n (0, 0, 0), r) (eva_cons (ev_fld (C := C) (fs := innF s) (nm := innN) (y := x) (ev_n 0) I.cl I.nH rfl) (eva_cons (ev_ixT (ds := s.bk.map stayD) (i := (n : Int)) (ev_fld (C := C) (fs := innF s) (nm := innN) (y := x) (ev_n 0) I.cl I.nB rfl) (ev_n 1) (staysD_at hnl)) (eva_cons (ev_n 2) eva_nil))) hr1 ?_
      show N.E.d (.bool (decide _)) = _
      rw [decide_eq_true hr2]
  rw [if_neg (show ¬ (false = true) by decide)]
  refine seq_nil ?_
  have ad1 := ad0.grow g1
  have inn1 := inn0.grow g1
  refine seq_set (Ev.run (T := T) (r := .d (toldD (setRm s.rm n (some r)))) (ev_methI D4 I.cl (hr.mono (by decide)) (x, s, n, some r) (ev_n 0) (eva_cons (ev_n 1) (eva_cons (ev_n 2) eva_nil)) (by decide) rfl ⟨hrl, by show s.rm.length ≤ 1000; rw [iok.rm]; omega⟩ rfl) (inn1.ad ad1 0 rfl) fun v2 H2 g2 r2 => ?_)
  have ad2 := (ad1.grow g2).set 3 r2
  have inn2 := inn1.grow g2
  have hl2 := setRm_len (o := some r) hrl
  refine seq_if ?_
  refine Evt.run (T := T) (b := !mayP s n r) ?_ (inn2.ad ad2 0 rfl) fun H3 g3 => ?_
  · refine evt_is (evt_isN (e := .d (optL (planWith s.h (keptL s) (roomsL (putI s n r))))) ?_) ?_
    · have hl : (roomsL (putI s n r)).length = (keptL s).length := by rw [rooms_len, kept_len]; rfl
      refine ev_callI D7 hr (s.h, keptL s, roomsL (putI s n r)) (eva_cons (ev_fld (C := C) (fs := innF s) (nm := innN) (y := x) (ev_n 0) I.cl I.nH rfl) (eva_cons (ev_meth0I D5 I.cl (hr.mono (by decide)) (x, s) (ev_n 0) (by decide) rfl (by show s.bk.length ≤ 1000; omega) rfl) (eva_cons (r := .d (toldD (roomsL (putI s n r)))) ?_ eva_nil))) ⟨h5, hk8, hl, plan_holds h5 hl⟩ rfl
      refine ev_tupL (ds := (roomsL (putI s n r)).map optD) B (ev_is (ev_lcM (js := [4]) [("one", 4)] (numsL s) (fun (i : Nat) => PyData.int (i : Int)) (fun (k : Nat) => optD ((setRm s.rm n (some r)).getD k none)) (nd_ok rfl) rfl (evi_list (ds := (numsL s).map fun (i : Nat) => PyData.int (i : Int)) ?_) (by have := numsL_len s; omega) fun k hk => ?_) ?_)
      · exact ev_meth0I D6 I.cl (hr.mono (by decide)) (x, s) (ev_n 0) (by decide) rfl (by show s.bk.length ≤ 1000; omega) rfl
      · refine ⟨_, fun s' H0 C' cl fp => ⟨evg_n 4 (nd_ok rfl), evts_nil, fun _ => ?_⟩⟩
        exact ev_ixT (ds := (setRm s.rm n (some r)).map optD) (i := (k : Int)) (ev_n 3) (ev_n 4) (toldD_at (by rw [hl2, iok.rm]; exact (numsL_mem.mp hk).1))
      · unfold roomsL putI
        rw [List.map_map]
        rfl
    · unfold mayP
      cases planWith s.h (keptL s) (roomsL (putI s n r)) <;> rfl
  have inn3 := inn2.grow g3
  have ad3 := ad2.grow g3
  cases hmay : mayP s n r with
  | false =>
    rw [if_pos (show (!false) = true from rfl)]
    exact q2 hmay _ (((g0.trans g1).trans g2).trans g3)
  | true =>
    rw [if_neg (show ¬ ((!true) = true) by decide)]
    refine seq_nil ?_
    refine seq_drop (keep_run D8 I (hr.mono (by decide)) ad3 (ev_n 0) inn3 (by omega) fun H4 g4 inn4 => ?_)
    have ad4 := ad3.gm rfl (One.le inn.sp) g4
    try dsimp only
    refine inn_rm (rm := setRm s.rm n (some r)) inn4 I ad4 (inn4.ad ad4 0 rfl) (ev_n 0) (ev_n 3) fun H5 g5 inn5 => ?_
    have t1 : ∀ b, One x b → Two x pl b := fun b e => .inl e
    have t2 : ∀ b, One pl b → Two x pl b := fun b e => .inr e
    have sT : ∀ {Hz : Hp}, Sok S Hz → Sok (Two x pl) Hz := fun z b hb => hb.elim (fun e => by rw [e]; exact z x inn.sx) fun e => by rw [e]; exact z pl inn.sp
    exact q1 hmay _ (((Gm.of (((g0.trans g1).trans g2).trans g3)).trans (Gm.le t2 (sT ad3.sok) g4)).trans (Gm.le t1 (sT ad4.sok) g5)) inn5
end
end N

namespace N
open PySem L2 LamX
/-! ### expressions that draw: k draws, what is told of the value -/
theorem Gm.mut {M : Addr → Prop} {T : Tbl} {H H' : Hp} {p : Addr} {o u : HO} (g : Gm M T H H') (hn : H p = none) (hp : H' p = some o) (m : Mt o) (m2 : Mt u) : Gm M T H (L2.upd H' p u) := ⟨fun b v e n q => by
    rw [upd_ne (ne_of_none e hn)]
    exact g.kp b v e n q, fun t => Tabs.mutM hp m (g.tb t), fun s b hb => by
    by_cases z : b = p
    · rw [z]; exact ⟨u, upd_same, m2⟩
    · rw [upd_ne z]; exact g.mt s b hb⟩
theorem Pn.more {S S' : Addr → Prop} {H : Hp} {a : Addr} {n : Nat} (h : Pn S H a n) (hs : ∀ b, S b → S' b) : Pn S' H a n := ⟨hs a h.1, h.2⟩
def Edz (K : PySem.W.Frag) (T : Tbl) (a : Addr) (t : TE) (δ : Sl) (k : Nat) (R : PyData → Prop) : Prop := ∀ (S : Addr → Prop) (σ : L2.St) (H : Hp) (n : Nat), Ad K T S H σ δ → Pn S H a n → n + k ≤ 90000 → ∀ Q : VK, (∀ v H' d, Gm (One a) T H H' → Pn S H' a (n + k) → R d → Rp K S H' v d → Q v H') → t σ H Q
def Evz (T : Tbl) (X : Cx) (a : Addr) (e : Expr) (δ : Sl) (k : Nat) (R : PyData → Prop) : Prop := Edz X.K T a (tB X e) δ k R
def Evaz (T : Tbl) (X : Cx) (a : Addr) (es : List Expr) (δ : Sl) (k : Nat) (R : List PyData → Prop) : Prop := ∀ (S : Addr → Prop) (σ : L2.St) (H : Hp) (n : Nat), Ad X.K T S H σ δ → Pn S H a n → n + k ≤ 90000 → ∀ Q : List V → Hp → Prop, (∀ vs H' ds, Gm (One a) T H H' → Pn S H' a (n + k) → R ds → RpA X.K S H' vs ds → Q vs H') → tA X es σ H Q
def IntIn (lo hi : Int) : PyData → Prop := fun d => ∃ i : Int, d = .int i ∧ lo ≤ i ∧ i ≤ hi
def LstOf (R : PyData → Prop) (lo hi : Nat) : PyData → Prop := fun d => ∃ ds, d = .list ds ∧ (lo ≤ ds.length ∧ ds.length ≤ hi) ∧ ∀ x ∈ ds, R x
section
variable {T : Tbl} {X : Cx} {a : Addr} {δ : Sl} {k k1 k2 : Nat} {e e1 e2 : Expr} {es : List Expr} {R Ra Rb : PyData → Prop} {Rs : List PyData → Prop} {d : PyData} {pos p : Pos} {i lo hi : Int}
theorem Evz.run {S : Addr → Prop} {σ : L2.St} {H : Hp} {n : Nat} {Q : VK} (h : Evz T X a e δ k R) (ad : Ad X.K T S H σ δ) (pn : Pn S H a n) (hn : n + k ≤ 90000) (q : ∀ v H' d, Gm (One a) T H H' → Pn S H' a (n + k) → R d → Rp X.K S H' v d → Q v H') : tB X e σ H Q := h S σ H n ad pn hn Q q
theorem evz_of {t : TE} (h : PE X e t) (q : Edz X.K T a t δ k R) : Evz T X a e δ k R := fun S σ H n ad pn hn Q kk pins s I => h.run pins s σ H Q I (q S σ H n ad pn hn Q kk)
theorem evz_ev (h : Ev T X e δ (.d d)) (hR : R d) : Evz T X a e δ 0 R := fun S σ H n ad pn hn Q kk => h S σ H ad Q fun v H1 g r => kk v H1 d (Gm.of g) (pn.grow g) hR r
theorem evz_mono {R' : PyData → Prop} (h : Evz T X a e δ k R) (hR : ∀ d, R d → R' d) : Evz T X a e δ k R' := fun S σ H n ad pn hn Q kk => h S σ H n ad pn hn Q fun v H1 d g p r q => kk v H1 d g p (hR d r) q
theorem Pn.sok {K : PySem.W.Frag} {S : Addr → Prop} {σ : L2.St} {H : Hp} {n : Nat} (h : Pn S H a n) (ad : Ad K T S H σ δ) : Sok (One a) H := fun b hb => ad.sok b (h.one b hb)
theorem edz_op {K : PySem.W.Frag} {ta tb : TE} {rr : R2} (h1 : Edz K T a ta δ k1 Ra) (h2 : Edz K T a tb δ k2 Rb) (hs : stb δ = true)
    (q : ∀ (S : Addr → Prop) (H : Hp) (v w : V) (d1 d2 : PyData), Sok S H → Tabs T H → Ra d1 → Rb d2 → Rp K S H v d1 → Rp K S H w d2 → ∀ Q : VK, (∀ z H' d, Gr T H H' → R d → Rp K S H' z d → Q z H') → rr v w H Q) : Edz K T a (tOp rr ta tb) δ (k1 + k2) R :=
  fun S σ H n ad pn hn Q kk => h1 S σ H n ad pn (by omega) _ fun v H1 d1 g1 p1 r1 q1 => h2 S σ H1 (n + k1) (ad.gm hs pn.one g1) p1 (by omega) _ fun w H2 d2 g2 p2 r2 q2 =>
    q S H2 v w d1 d2 ((ad.gm hs pn.one g1).gm hs p1.one g2).sok ((ad.gm hs pn.one g1).gm hs p1.one g2).tab r1 r2 (Rp.gm g2 p1.one (p1.sok (ad.gm hs pn.one g1)) q1) q2 Q fun z H3 d g3 r3 q3 => kk z H3 d ((g1.trans g2).trans (Gm.of g3)) (by
      rw [← Nat.add_assoc]
      exact p2.grow g3) r3 q3
theorem evz_op {op : Operator} {rr : R2} (ho : OpR X (binaryOp op) rr) (h1 : Evz T X a e1 δ k1 Ra) (h2 : Evz T X a e2 δ k2 Rb) (hs : stb δ = true)
    (q : ∀ (S : Addr → Prop) (H : Hp) (v w : V) (d1 d2 : PyData), Sok S H → Tabs T H → Ra d1 → Rb d2 → Rp X.K S H v d1 → Rp X.K S H w d2 → ∀ Q : VK, (∀ z H' d, Gr T H H' → R d → Rp X.K S H' z d → Q z H') → rr v w H Q) : Evz T X a (.BinOp e1 op e2 pos) δ (k1 + k2) R :=
  evz_of (pe_op ho (pe_best X) (pe_best X)) (edz_op h1 h2 hs q)
theorem evz_add (h1 : Ev T X e1 δ (.d (.int i))) (h2 : Evz T X a e2 δ k (IntIn lo hi)) (hs : stb δ = true := by rfl) : Evz T X a (.BinOp e1 .Add e2 pos) δ (0 + k) (IntIn (i + lo) (i + hi)) :=
  evz_op op_add (evz_ev (R := fun d => d = .int i) h1 rfl) h2 hs fun S H v w d1 d2 _ _ r1 r2 q1 q2 Q kk => by
    subst r1
    obtain ⟨j, rfl, h1, h2⟩ := r2
    exact ⟨i, j, Rp.int_inv q1, Rp.int_inv q2, kk _ H _ (Gr.refl H) ⟨i + j, rfl, by omega, by omega⟩ (Rp.int _)⟩
theorem evz_ixL {m : Nat} (h1 : Evz T X a e1 δ k1 (LstOf R m m)) (h2 : Evz T X a e2 δ k2 (IntIn 0 ((m : Int) - 1))) (hs : stb δ = true := by rfl) (hp : PlainIx e2 := by intro _ _; rfl) : Evz T X a (.Subscript e1 e2 pos) δ (k1 + k2) R :=
  evz_of (pe_ix ix_list (pe_best X) (pe_best X) hp) (edz_op h1 h2 hs fun S H v w d1 d2 _ _ r1 r2 q1 q2 Q kk => by
    obtain ⟨ds, rfl, ⟨l1, l2⟩, hR⟩ := r1
    obtain ⟨j, rfl, b1, b2⟩ := r2
    cases q1 with
    | lst hq ha =>
      have hj : j.toNat < ds.length := by omega
      obtain ⟨u, e1, e2⟩ := ix_get ha (i := j) (d := ds[j.toNat]) (by rw [atI_nat b1 (by omega), List.getElem?_eq_getElem hj])
      exact ⟨_, _, j, u, rfl, Rp.int_inv q2, hq.sq, e1, kk u H _ (Gr.refl H) (hR _ (List.getElem_mem hj)) e2⟩)
theorem evz_ixT {ds : List PyData} (h1 : Ev T X e1 δ (.d (.tuple ds))) (h2 : Evz T X a e2 δ k (IntIn 0 ((ds.length : Int) - 1))) (hR : ∀ x ∈ ds, R x) (hs : stb δ = true := by rfl) (hp : PlainIx e2 := by intro _ _; rfl) : Evz T X a (.Subscript e1 e2 pos) δ (0 + k) R :=
  evz_of (pe_ix ix_tup (pe_best X) (pe_best X) hp) (edz_op (evz_ev (R := fun d => d = .tuple ds) h1 rfl) h2 hs fun S H v w d1 d2 _ _ r1 r2 q1 q2 Q kk => by
    subst r1
    obtain ⟨j, rfl, b1, b2⟩ := r2
    cases q1 with
    | tup hq ha =>
      have hj : j.toNat < ds.length := by omega
      obtain ⟨u, e1, e2⟩ := ix_get ha (i := j) (d := ds[j.toNat]) (by rw [atI_nat b1 (by omega), List.getElem?_eq_getElem hj])
      exact ⟨_, _, j, u, rfl, Rp.int_inv q2, hq, e1, kk u H _ (Gr.refl H) (hR _ (List.getElem_mem hj)) e2⟩)
theorem evaz_nil : Evaz T X a [] δ 0 (fun ds => ds = []) := fun S σ H n ad pn hn Q kk pos pins s I => (pa_nil (X := X)).run pos pins s σ H Q I (kk [] H [] Gm.refl pn rfl .nil)
theorem evaz_cons (h : Evz T X a e δ k1 R) (h2 : Evaz T X a es δ k2 Rs) (hst : stb δ = true := by rfl) (hs : starEach (e :: es) X.env = (false, eval e X.env) :: starEach es X.env := by rfl) : Evaz T X a (e :: es) δ (k1 + k2) (fun ds => ∃ d r, ds = d :: r ∧ R d ∧ Rs r) :=
  fun S σ H n ad pn hn Q kk pos pins s I => (pa_cons (pe_best X) (pa_best X) hs).run pos pins s σ H Q I (h S σ H n ad pn (by omega) _ fun v H1 d g1 p1 r1 q1 => h2 S σ H1 (n + k1) (ad.gm hst pn.one g1) p1 (by omega) _ fun vs H2 ds g2 p2 r2 q2 =>
    kk _ H2 _ (g1.trans g2) (by
      rw [← Nat.add_assoc]
      exact p2) ⟨d, ds, rfl, r1, r2⟩ (.cons (Rp.gm g2 p1.one (p1.sok (ad.gm hst pn.one g1)) q1) q2))
theorem evz_tup {j : Nat} (h : Evaz T X a es δ k Rs) (hl : ∀ ds, Rs ds → ds.length ≤ 1000000) (hst : stb δ = true := by rfl) : Evz T X a (.Tuple es j pos) δ k (fun d => ∃ ds, d = .tuple ds ∧ Rs ds) :=
  evz_of (pe_tup (pa_best X)) fun S σ H n ad pn hn Q kk => h S σ H n ad pn hn _ fun vs H1 ds g1 p1 r1 q1 => ⟨small_of (by rw [q1.length]; exact hl ds r1), fun p hp =>
    kk _ _ _ (g1.trans (Gm.of (Gr.new hp))) (p1.grow (T := T) (Gr.new hp)) ⟨ds, rfl, r1⟩ (Rp.tup (SqT.of upd_same) (q1.grow (T := T) (Gr.new hp)))⟩
theorem evz_lst (h : Evaz T X a es δ k Rs) (hl : ∀ ds, Rs ds → ds.length ≤ 1000000) (hst : stb δ = true := by rfl) : Evz T X a (.List es pos) δ k (fun d => ∃ ds, d = .list ds ∧ Rs ds) :=
  evz_of (pe_lst (pa_best X)) fun S σ H n ad pn hn Q kk => h S σ H n ad pn hn _ fun vs H1 ds g1 p1 r1 q1 => ⟨small_of (by rw [q1.length]; exact hl ds r1), fun p hp =>
    kk _ _ _ (g1.trans (Gm.of (Gr.new hp))) (p1.grow (T := T) (Gr.new hp)) ⟨ds, rfl, r1⟩ (Rp.lst (SL.new (ad.gm hst pn.one g1).sok hp) (q1.grow (T := T) (Gr.new hp)))⟩
/-- a draw -/
theorem evz_draw (D : Dfn X.prog X.w X.K X.mg X.base "_law_draw" 1 ["_law_pen_here", "_law_many"] (spDraw T)) (hr : Room 1 X.A) (hp : Ev T X e1 δ (.rf a)) (hm : Evz T X a e2 δ k (IntIn lo hi)) (hb : 1 ≤ lo ∧ hi ≤ 1000) (hst : stb δ = true := by rfl) (hg : Gl X "_law_draw" := by rfl)
    (hs : starEach [e1, e2] X.env = (false, eval e1 X.env) :: starEach [e2] X.env := by rfl) (hs2 : starEach [e2] X.env = (false, eval e2 X.env) :: starEach [] X.env := by rfl) : Evz T X a (.Call (.Name "_law_draw" p) [e1, e2] [] pos) δ (k + 1) (IntIn 0 (hi - 1)) := by
  obtain ⟨f, fd, F, hmg, hk, hbd⟩ := D.ex
  refine evz_of (pe_call F hr hg hmg hk hbd .nil pass0 (pa_cons (pe_best X) (pa_cons (pe_best X) pa_nil hs2) hs) (by decide) hs (by rw [hs2]; rfl)) fun S σ H n ad pn hn Q kk => ?_
  refine hp S σ H ad _ fun v H1 g1 r1 => hm S σ H1 n (ad.grow g1) (pn.grow g1) (by omega) _ fun w H2 d2 g2 p2 r2 q2 => ?_
  obtain rfl : v = .ref a := r1
  obtain ⟨i, rfl, b1, b2⟩ := r2
  have ad2 := (ad.grow g1).gm hst (pn.grow g1).one g2
  refine ⟨S, a, i, n + k, by rw [Rp.int_inv q2]; rfl, ad2.sok, ad2.tab, p2, by omega, by omega, fun d H3 c1 c2 g3 p3 => kk (.int d) H3 (.int d) ((Gm.of g1).trans (g2.trans g3)) p3 ⟨d, rfl, c1, by omega⟩ (Rp.int d)⟩
/-- [elt for _ in range(cnt)], both draw -/
theorem evz_lcR {elt cnt : Expr} {scope : Scope} {y : Str} {m1 m2 : Nat} {py pc pr : Pos} (own : List (Str × Nat)) {js : List Nat} (h : Evz T X a cnt δ k1 (IntIn (m1 : Int) (m2 : Int))) (hm : m2 ≤ 1000) (hN : X.N.Nodup) (hok : blkC X.N X.env.scope scope own = true) (B : Bn X.mg)
    (turn : ∀ j : Int, ∃ δ', stb δ' = true ∧ ∀ (s : Shared) (H0 : Hp) (C : Addr) (cl : List (Str × Addr)) (fp : List Addr), Evg T (X.blk s H0 scope (compEnvC scope cl C X.env) fp) js (.Name y py) (wipeD δ (own.map (·.2))) (.int j) δ' ∧ Evz T (X.blk s H0 scope (compEnvC scope cl C X.env) fp) a elt δ' k2 R)
    (hst : stb δ = true := by rfl) (hst2 : stb (wipeD δ (own.map (·.2))) = true := by rfl) (hjs : ∀ j ∈ js, j ∈ own.map (·.2) := by decide) (hc : X.calm = true := by rfl) (hg : Gl X "range" := by rfl) (hs0 : starEach [cnt] X.env = (false, eval cnt X.env) :: starEach [] X.env := by rfl)
    (hs : ∀ x, foldedSetIterable (.Call (.Name "range" pc) [cnt] [] pr) X.env x = pure x := by intro _; rfl) : Evz T X a (.ListComp elt [⟨.Name y py, .Call (.Name "range" pc) [cnt] [] pr, [], 0⟩] scope pos) δ (k1 + m2 * k2) (LstOf R m1 m2) := by
  refine evz_of (pe_lc hc hN (pi_range1 hg B.range (pa_cons (pe_best X) pa_nil hs0) (by rw [hs0]; rfl)) (blkOk_by hok) bG_ok bT_ok bE_ok hs) fun S σ H n ad pn hn Q kk => ?_
  refine h S σ H n ad pn (by omega) _ fun v H1 d1 g1 p1 r1 q1 => ?_
  obtain ⟨c, rfl, b1, b2⟩ := r1
  refine ⟨c, by rw [Rp.int_inv q1], by omega, by omega, fun D hD => ?_⟩
  have ad1 := ad.gm hst pn.one g1
  let S' : Addr → Prop := fun b => S b ∨ b = D
  have hS' : ∀ b, S' b → S b ∨ H1 b = none := fun b h => h.elim .inl fun z => .inr (by rw [z]; exact hD)
  have nDa : D ≠ a := fun z => by
    obtain ⟨_, x0, x1, x2, e, _⟩ := p1
    rw [← z, hD] at e
    cases e
  refine ⟨fun i m H => m = c.toNat - i ∧ i ≤ c.toNat ∧ Gm (One a) T H1 H ∧ Pn S H a (n + k1 + i * k2) ∧ Ad X.K T S' H (L2.wipe σ (own.map (·.2))) (wipeD δ (own.map (·.2))) ∧ ∃ acc ds, H D = some (.lst acc) ∧ RpA X.K S' H acc ds ∧ ds.length = i ∧ ∀ x ∈ ds, R x,
    ⟨c.toNat, rfl, Nat.zero_le _, Gm.of (Gr.new hD), by rw [Nat.zero_mul]; exact p1.grow (T := T) (Gr.new hD), ?_, [], [], upd_same, .nil, rfl, fun x hx => by simp at hx⟩, ?_⟩
  · refine ⟨fun b hb => ?_, (Gr.new (T := T) hD).2 ad1.tab, ((ad1.sd.more hS').grow (T := T) (Gr.new hD)).wipe _⟩
    rcases hb with hb | hb
    · exact (ad1.sok.mono (Gr.new (T := T) hD)) b hb
    · rw [hb]
      exact ⟨_, upd_same, trivial⟩
  rintro i m H2 ⟨rfl, hi2, g2, p2, ad2, acc, ds, hacc, racc, hl, hR⟩
  by_cases hlt : i < c.toNat
  · refine .inr ⟨hlt, fun H' => i + 1 ≤ c.toNat ∧ Gm (One a) T H1 H' ∧ Pn S H' a (n + k1 + (i + 1) * k2) ∧ Ad X.K T S' H' (L2.wipe σ (own.map (·.2))) (wipeD δ (own.map (·.2))) ∧ ∃ acc ds, H' D = some (.lst acc) ∧ RpA X.K S' H' acc ds ∧ ds.length = i + 1 ∧ ∀ x ∈ ds, R x, fun H' q => ⟨c.toNat - (i + 1), by omega, rfl, q.1, q.2⟩, fun x H3 y => ?_⟩
    obtain ⟨e, y⟩ := y
    subst e y
    obtain ⟨δ', t0, t1⟩ := turn (0 + (i : Int))
    refine fun s H0 C cl fp => ?_
    refine (t1 s H0 C cl fp).1 S' _ H3 _ ad2 (Rp.int _) _ fun σ2 ad4 bt => ⟨wipe_but bt hjs, fun s H0 C cl fp => evts_nil (X := X.blk s H0 scope (compEnvC scope cl C X.env) fp) S' σ2 H3 ad4 _ fun H4 g4 => ?_⟩
    rw [if_pos rfl]
    refine fun s H0 C cl fp => ?_
    have pS' : Pn S' H4 a (n + k1 + i * k2) := (p2.grow g4).more fun b hb => .inl hb
    have hmk : (i + 1) * k2 ≤ m2 * k2 := Nat.mul_le_mul_right _ (by omega)
    have hik : (i + 1) * k2 = i * k2 + k2 := by rw [Nat.add_mul, Nat.one_mul]
    refine (t1 s H0 C cl fp).2 S' σ2 H4 _ (ad4.grow g4) pS' (by omega) _ fun y H5 dy g5 p5 ry qy => ?_
    have hD4 : H4 D = some (.lst acc) := g4.1 _ _ hacc (fun ps z => by cases z)
    have hD5 : H5 D = some (.lst acc) := g5.kp _ _ hD4 (fun ps z => by cases z) nDa
    have la := racc.length
    have hM : ∀ b, One a b → S' b := pS'.one
    have sm4 : Sok (One a) H4 := fun b hb => (ad4.grow g4).sok b (hM b hb)
    have g25 : Gm (One a) T H3 H5 := (Gm.of g4).trans g5
    have racc5 : RpA X.K S' H5 acc ds := RpA.gm g5 hM sm4 (racc.grow g4)
    have gU : Gm (fun b => b = D) T H5 (L2.upd H5 D (.lst (acc ++ [y]))) := Gm.upd rfl hD5 trivial trivial
    refine ⟨acc, hD5, small_lt (by rw [la, hl]; omega), hlt, (g2.trans g25).mut hD hD5 trivial trivial, ?_, ?_, acc ++ [y], ds ++ [dy], upd_same, ?_, by rw [List.length_append, hl]; rfl, ?_⟩
    · refine Pn.gm (M := fun b => b = D) (fun z => nDa z.symm) gU ?_
      rw [hik, ← Nat.add_assoc]
      obtain ⟨_, r⟩ := p5
      exact ⟨p1.1, r⟩
    · refine Ad.gm (M := fun b => b = D) (ad2.gm hst2 hM g25) hst2 (fun b hb => .inr hb) gU
    · exact (racc5.append (.cons qy .nil)).mut hD5 (.inr rfl) trivial
    · intro x hx
      rcases List.mem_append.mp hx with z | z
      · exact hR x z
      · rw [List.mem_singleton.mp z]
        exact ry
  · have e : i = c.toNat := by omega
    subst e
    refine .inl ⟨Nat.le_refl _, kk _ H2 (.list ds) (g1.trans g2) (Pn.le ?_ p2) ⟨ds, rfl, by omega, hR⟩ (Rp.lst (.inl ⟨ad1.sok.fresh hD, .inl hacc⟩) (racc.more fun b h => .inl (.inl h)))⟩
    have : c.toNat * k2 ≤ m2 * k2 := Nat.mul_le_mul_right _ (by omega)
    omega
end
end N

namespace N
open PySem L2 LamX
theorem Nw.gr {T : Tbl} {H H' : Hp} {a : Addr} (g : Gr T H H') (h : Nw H' a) : Nw H a := Nw.back (M := fun _ => False) (Gm.of g) (fun b hb => hb.elim) h
theorem sc_cell : FnScope ["_law_script", "_law_k"] ["_law_script", "_law_k"] (defScope (top 75)) := ⟨rfl, rfl, rfl, by decide +kernel, rfl, by decide +kernel, by decide +kernel⟩
theorem sc_pen : FnScope ["_law_cell"] ["_law_cell"] (defScope (top 76)) := ⟨rfl, rfl, rfl, by decide +kernel, rfl, by decide +kernel, by decide +kernel⟩
theorem sc_house : FnScope ["_law_pen_here", "_law_room"] ["_law_pen_here"] (defScope (top 78)) := ⟨rfl, rfl, rfl, by decide +kernel, rfl, by decide +kernel, by decide +kernel⟩
theorem sc_guest : FnScope ["_law_pen_here", "_law_house_here", "_law_kind"] ["_law_pen_here", "_law_house_here"] (defScope (top 79)) := ⟨rfl, rfl, rfl, by decide +kernel, rfl, by decide +kernel, by decide +kernel⟩
def cellI (ns : List Int) (k : Int) : Int := if k < (ns.length : Int) then ns.getD k.toNat 0 else 0
abbrev sp_cell (K : PySem.W.Frag) (T : Tbl) : Sp := spN (α := List Int × Int) K T (fun a => [.d (.list (a.1.map .int)), .d (.int a.2)]) (fun a => a.1.length ≤ 1000 ∧ 0 ≤ a.2) (fun a => .d (.int (cellI a.1 a.2)))
/-- a new pen -/
def spPen (T : Tbl) : Sp := fun vs H Q _ => ∃ (c : Int), vs = [.int c] ∧ Tabs T H ∧ ∀ (a : Addr) (H' : Hp), Nw H a → Gr T H H' → (∃ p0 p1 : Int, H' a = some (.lst [.int p0, .int p1, .int 0]) ∧ 0 ≤ p1 ∧ p1 < 1000000007) → Q (.ref a) H'
def spHouse (K : PySem.W.Frag) (T : Tbl) : Sp := fun vs H Q _ => ∃ (S : Addr → Prop) (a : Addr) (n : Nat), vs = [.ref a] ∧ Sok S H ∧ Tabs T H ∧ Pn S H a n ∧ n ≤ 80000 ∧ ∀ (v : V) (H' : Hp) (h : List Int), HouseOk h → Gm (One a) T H H' → Pn S H' a (n + 6) → Rp K S H' v (houseD h) → Q v H'
def spGuest (K : PySem.W.Frag) (T : Tbl) : Sp := fun vs H Q _ => ∃ (S : Addr → Prop) (a : Addr) (u : V) (h : List Int) (n : Nat), vs = [.ref a, u] ∧ Sok S H ∧ Tabs T H ∧ Pn S H a n ∧ n ≤ 80000 ∧ Rp K S H u (houseD h) ∧ HouseOk h ∧ ∀ (v : V) (H' : Hp) (st : Stay), StayOk st → Gm (One a) T H H' → Pn S H' a (n + 7) → Rp K S H' v (stayD st) → Q v H'
theorem ints_in {lo hi : Int} : ∀ {ds : List PyData}, (∀ x ∈ ds, IntIn lo hi x) → ∃ ns : List Int, ds = ns.map .int ∧ ∀ n ∈ ns, lo ≤ n ∧ n ≤ hi
  | [], _ => ⟨[], rfl, by simp⟩
  | d :: ds, h => by
    obtain ⟨i, rfl, hi⟩ := h d List.mem_cons_self
    obtain ⟨ns, e, hn⟩ := ints_in fun x hx => h x (List.mem_cons_of_mem _ hx)
    subst e
    exact ⟨i :: ns, rfl, fun n hn' => by
      rcases List.mem_cons.mp hn' with z | z
      · rw [z]; exact hi
      · exact hn n z⟩
section
variable {P : Program} {w : World} {K : PySem.W.Frag} {mg : Str → Option Value} {base : Heap} {T : Tbl} {f : Addr} {fd : FuncData}
theorem ok_cell (F : Fun K "_law_cell_at" "_law_cell_at" (top 75) f fd) (B : Bn mg) : FnOk P w K mg base CX0 1 f fd ["_law_script", "_law_k"] (sp_cell K T) := by
  refine fn_mkN F sc_cell (fun _ => rfl) fun cdv A outer s H E hr a hp => ⟨.rt (.d (.int (cellI a.1 a.2))), ?_, rfl⟩
  obtain ⟨ns, k⟩ := a
  obtain ⟨h1, h2⟩ := hp
  dsimp only at h1 h2 ⊢
  have ht : ∀ {X : Cx} {δ : Sl} {a b : Expr} {pos : Pos}, Ev T X a δ (.d (.int k)) → Ev T X b δ (.d (.int ((ns.map PyData.int).length : Int))) → Evt T X (.Compare a [.Lt] [b] pos) δ (decide (k < (ns.length : Int))) := fun q1 q2 => evt_is (evt_lt q1 q2) (by rw [List.length_map])
  by_cases hk : k < (ns.length : Int)
  · have e : cellI ns k = ns[k.toNat]'(by omega) := by
      unfold cellI
      rw [if_pos hk, List.getD_eq_getElem?_getD, List.getElem?_eq_getElem (by omega)]
      rfl
    refine evb_out (evs_if (u := true) (evt_is (ht (ev_n 1) (ev_lenL B (ev_n 0))) (decide_eq_true hk)) (fun _ => evb_one (evs_ret ?_)) (fun z => by cases z)) rfl
    refine ev_ixL (i := k) (ev_n 0) (ev_n 1) ?_
    rw [atI_nat h2 (by rw [List.length_map]; exact hk), List.getElem?_map, List.getElem?_eq_getElem (by omega), e]
    rfl
  · have e : cellI ns k = 0 := by
      unfold cellI
      rw [if_neg hk]
    rw [e]
    exact evb_cons (evs_if (u := false) (evt_is (ht (ev_n 1) (ev_lenL B (ev_n 0))) (decide_eq_false hk)) (fun z => by cases z) (fun _ => evb_nil)) (evb_one (evs_ret ev_i))
theorem ok_pen (F : Fun K "_law_pen" "_law_pen" (top 76) f fd) (B : Bn mg) : FnOk P w K mg base CX0 1 f fd ["_law_cell"] (spPen T) := by
  refine F.ok sc_pen (fun vs H Q E h => ?_) fun cdv A outer s0 H vs Q E hr h => ?_
  · obtain ⟨c, rfl, _⟩ := h
    rfl
  obtain ⟨c, rfl, tb, q⟩ := h
  refine ⟨_, pss_one (ps_ret (pe_lst (pa_cons (pe_best _) (pa_cons (pe_best _) (pa_cons (pe_best _) pa_nil))))), ?_⟩
  have ad : Ad K T (fun _ => False) H (L2.start ["_law_cell"] [.int c]) [some (.d (.int c))] := ⟨Sok.empty, tb, SD.start (es := [.d (.int c)]) (.cons (Rp.int _) .nil)⟩
  generalize L2.start ["_law_cell"] [V.int c] = σ at ad ⊢
  refine ret_id (Ev.run (T := T) (r := .d (.int (if c - 10 ^ 18 > 0 then c - 10 ^ 18 else 0))) (ev_max2 B ev_i (ev_sub (ev_n 0) (ev_is (ev_powI (i := 10) (j := 18) ev_i ev_i ?_) ?_))) ad fun v1 H1 g1 r1 => ?_)
  · exact ⟨by decide, by decide, by decide⟩
  · rfl
  refine Ev.run (T := T) (r := .d (.int (c % 1000000007))) (ev_modI (ev_n 0) ev_i (by decide)) (ad.grow g1) fun v2 H2 g2 r2 => ?_
  refine Ev.run (T := T) (r := .d (.int 0)) ev_i ((ad.grow g1).grow g2) fun v3 H3 g3 r3 => ?_
  have g := (g1.trans g2).trans g3
  refine ⟨small_of (by show 3 ≤ 1000000; decide), fun p hp => ?_⟩
  rw [Rp.int_inv r1, Rp.int_inv r2, Rp.int_inv r3]
  exact q p _ (Nw.gr g (Nw.of hp)) (g.trans (Gr.new hp)) ⟨_, _, upd_same, Int.emod_nonneg _ (by decide), Int.emod_lt_of_pos _ (by decide)⟩
theorem ok_house (F : Fun K "_law_house" "_law_house" (top 78) f fd) (B : Bn mg) (D1 : Dfn P w K mg base "_law_draw" 1 ["_law_pen_here", "_law_many"] (spDraw T)) : FnOk P w K mg base CX0 2 f fd ["_law_pen_here"] (spHouse K T) := by
  refine F.ok sc_house (fun vs H Q E h => ?_) fun cdv A outer s0 H vs Q E hr h => ?_
  · obtain ⟨S, a, n, rfl, _⟩ := h
    rfl
  obtain ⟨S, a, n, rfl, sk, tb, pn, hn, q⟩ := h
  refine ⟨_, pss_one (ps_ret (pe_tupleOf rfl B.tuple (pe_best _) rfl)), ?_⟩
  have ad : Ad K T S H (L2.start ["_law_pen_here", "_law_room"] [.ref a]) [some (.rf a), none] := ⟨sk, tb, SD.start (es := [.rf a]) (.cons rfl .nil)⟩
  generalize L2.start ["_law_pen_here", "_law_room"] [V.ref a] = σ at ad ⊢
  refine ret_id (Evz.run (T := T) (a := a) (k := 1 + 5 * 1) (R := LstOf (IntIn 1 3) 1 5) ?_ ad pn (by omega) fun v H1 d g1 p1 r1 q1 => ?_)
  · refine evz_lcR (m1 := 1) (m2 := 5) (js := [1]) [("_law_room", 1)] (k1 := 1) (k2 := 1) (evz_mono (evz_add (i := 1) (lo := 0) (hi := 4) (k := 1) ev_i (evz_draw (lo := 5) (hi := 5) (k := 0) D1 (hr.mono (by decide)) (ev_n 0) (evz_ev ev_i ⟨5, rfl, by decide, by decide⟩) (by decide))) fun d h => h) (by decide) (nd_ok rfl) rfl B fun j => ⟨_, rfl, fun s H0 C' cl fp => ⟨evg_n 1 (nd_ok rfl), ?_⟩⟩
    exact evz_mono (evz_add (i := 1) (lo := 0) (hi := 2) (k := 1) ev_i (evz_draw (lo := 3) (hi := 3) (k := 0) D1 (hr.mono (by decide)) (ev_n 0) (evz_ev ev_i ⟨3, rfl, by decide, by decide⟩) (by decide))) fun d h => h
  · obtain ⟨ds, rfl, hl, hR⟩ := r1
    obtain ⟨ns, rfl, hns⟩ := ints_in hR
    rw [List.length_map] at hl
    cases q1 with
    | lst hq ha =>
      exact .inl ⟨_, _, rfl, hq.sq, fun p hp => q _ _ ns ⟨hl.1, hl.2, hns⟩ (g1.trans (Gm.of (Gr.new hp))) (p1.grow (T := T) (Gr.new hp)) (Rp.tup (SqT.of upd_same) (ha.grow (T := T) (Gr.new hp)))⟩
theorem ok_guest (F : Fun K "_law_guest" "_law_guest" (top 79) f fd) (B : Bn mg) (D1 : Dfn P w K mg base "_law_draw" 1 ["_law_pen_here", "_law_many"] (spDraw T)) : FnOk P w K mg base CX0 2 f fd ["_law_pen_here", "_law_house_here"] (spGuest K T) := by
  refine F.ok sc_guest (fun vs H Q E h => ?_) fun cdv A outer s0 H vs Q E hr h => ?_
  · obtain ⟨S, a, u, h, n, rfl, _⟩ := h
    rfl
  obtain ⟨S, a, u, h, n, rfl, sk, tb, pn, hn, ru, hh, q⟩ := h
  refine ⟨_, pss_cons (ps_set (i := 2) sc_guest.nd rfl (.inl rfl) (pe_best _)) (pss_one (ps_ret (pe_best _))), ?_⟩
  have ad : Ad K T S H (L2.start ["_law_pen_here", "_law_house_here", "_law_kind"] [.ref a, u]) [some (.rf a), some (.d (houseD h)), none] := ⟨sk, tb, SD.start (es := [.rf a, .d (houseD h)]) (.cons rfl (.cons ru .nil))⟩
  generalize L2.start ["_law_pen_here", "_law_house_here", "_law_kind"] [V.ref a, u] = σ at ad ⊢
  obtain ⟨h1, h5, hk⟩ := hh
  refine seq_id (set_id (Evz.run (T := T) (a := a) (k := 3) (R := IntIn 1 3) ?_ ad pn (by omega) fun v H1 d g1 p1 r1 q1 => ?_))
  · refine evz_mono (evz_ixL (m := 2) (k1 := 2) (k2 := 1) (R := IntIn 1 3) (evz_mono (evz_lst (k := 2) (evaz_cons (k1 := 1) (k2 := 1) (R := IntIn 1 3) (evz_mono (evz_add (i := 1) (lo := 0) (hi := 2) (k := 1) ev_i (evz_draw (lo := 3) (hi := 3) (k := 0) D1 (hr.mono (by decide)) (ev_n 0) (evz_ev ev_i ⟨3, rfl, by decide, by decide⟩) (by decide))) fun d h => h) (evaz_cons (k1 := 1) (k2 := 0) (R := IntIn 1 3) ?_ evaz_nil)) ?_) ?_) (evz_draw (lo := 2) (hi := 2) (k := 0) D1 (hr.mono (by decide)) (ev_n 0) (evz_ev ev_i ⟨2, rfl, by decide, by decide⟩) (by decide))) fun d h => h
    · refine evz_ixT (ds := h.map .int) (k := 1) (R := IntIn 1 3) (ev_n 1) (evz_mono (evz_draw (lo := (h.length : Int)) (hi := (h.length : Int)) (k := 0) D1 (hr.mono (by decide)) (ev_n 0) (evz_ev (ev_is (ev_lenT (ds := h.map .int) B (ev_n 1)) (by rw [List.length_map])) ⟨_, rfl, by omega, by omega⟩) (by omega)) fun d h => by rw [List.length_map]; exact h) fun x hx => ?_
      obtain ⟨i, hi, rfl⟩ := List.mem_map.mp hx
      exact ⟨i, rfl, hk i hi⟩
    · rintro ds ⟨d, r, rfl, _, d2, r2, rfl, _, rfl⟩
      show 2 ≤ 1000000
      decide
    · rintro d ⟨ds, rfl, d1, r, rfl, w1, d2, r2, rfl, w2, rfl⟩
      refine ⟨_, rfl, ⟨Nat.le_refl 2, Nat.le_refl 2⟩, fun x hx => ?_⟩
      rcases List.mem_cons.mp hx with z | z
      · rw [z]; exact w1
      · rw [List.mem_singleton.mp z]; exact w2
  obtain ⟨kind, rfl, hk1, hk2⟩ := r1
  have ad1 := (ad.gm rfl pn.one g1).set 2 (e := .d (.int kind)) q1
  dsimp only
  refine ret_id (Evz.run (T := T) (a := a) (k := 4) (R := fun d => ∃ st, d = stayD st ∧ StayOk st) ?_ ad1 p1 (by omega) fun v H2 d g2 p2 r2 q2 => ?_)
  · refine evz_mono (evz_tup (k := 4) (evaz_cons (k1 := 0) (k2 := 4) (R := fun d => d = .int kind) (evz_ev (ev_n 2) rfl) (evaz_cons (k1 := 2) (k2 := 2) (R := IntIn 0 20) ?_ (evaz_cons (k1 := 2) (k2 := 0) (R := IntIn 1 8) ?_ evaz_nil))) ?_) ?_
    · refine evz_mono (evz_draw (lo := 4) (hi := 21) (k := 1) D1 (hr.mono (by decide)) (ev_n 0) (evz_ixL (m := 3) (k1 := 0) (k2 := 1) (R := IntIn 4 21) (evz_ev (ev_lst (ds := [.int 4, .int 9, .int 21]) (evd_cons ev_i (evd_cons ev_i (evd_cons ev_i evd_nil)))) ⟨_, rfl, ⟨by decide, by decide⟩, fun x hx => ?_⟩) (evz_draw (lo := 3) (hi := 3) (k := 0) D1 (hr.mono (by decide)) (ev_n 0) (evz_ev ev_i ⟨3, rfl, by decide, by decide⟩) (by decide))) (by decide)) fun d h => h
      simp only [List.mem_cons, List.not_mem_nil, or_false] at hx
      rcases hx with z | z | z <;> (rw [z]; exact ⟨_, rfl, by decide, by decide⟩)
    · refine evz_mono (evz_add (i := 1) (lo := 0) (hi := 7) (k := 2) ev_i (evz_draw (lo := 3) (hi := 8) (k := 1) D1 (hr.mono (by decide)) (ev_n 0) (evz_ixL (m := 3) (k1 := 0) (k2 := 1) (R := IntIn 3 8) (evz_ev (ev_lst (ds := [.int 3, .int 5, .int 8]) (evd_cons ev_i (evd_cons ev_i (evd_cons ev_i evd_nil)))) ⟨_, rfl, ⟨by decide, by decide⟩, fun x hx => ?_⟩) (evz_draw (lo := 3) (hi := 3) (k := 0) D1 (hr.mono (by decide)) (ev_n 0) (evz_ev ev_i ⟨3, rfl, by decide, by decide⟩) (by decide))) (by decide))) fun d h => h
      simp only [List.mem_cons, List.not_mem_nil, or_false] at hx
      rcases hx with z | z | z <;> (rw [z]; exact ⟨_, rfl, by decide, by decide⟩)
    · rintro ds ⟨d, r, rfl, _, d2, r2, rfl, _, d3, r3, rfl, _, rfl⟩
      show 3 ≤ 1000000
      decide
    · rintro d ⟨ds, rfl, d1, r, rfl, w1, d2, r2, rfl, ⟨i, rfl, i1, i2⟩, d3, r3, rfl, ⟨j, rfl, j1, j2⟩, rfl⟩
      subst w1
      exact ⟨(kind, i, j), rfl, hk1, hk2, i1, i2, j1, j2⟩
  obtain ⟨st, rfl, hst⟩ := r2
  exact q v H2 st hst (g1.trans g2) p2 q2
end
end N

namespace N
open PySem L2 LamX
/-! ### o.f as a target in a tuple -/
def gFld (K : PySem.W.Frag) (ta : TE) (f : Str) : TG := fun v σ H Q => ta σ H fun x H1 => ∃ a C dx fs, x = .ref a ∧ H1 a = some (.ins C dx fs) ∧ Cls K C ∧ NoAttr K C f ∧ fs.length < 1000 ∧ Q σ (L2.upd H1 a (.ins C dx (putF f v fs)))
theorem pg_fld {X : Cx} {o : Expr} {f : Str} {pos : Pos} {ta : TE} (ha : PE X o ta) : PG X (.Attribute o f pos) (gFld X.K ta f) := by
  refine ⟨fun pins s σ H v u Q I r h => ?_⟩
  refine PySem.W.kas_attr (thn (ha.run pins s σ H _ I h) fun ov s2 ⟨x, H2, I2, rx, a, C, dx, fs, ex, ea, c, n, l, q2⟩ => ?_)
  subst ex
  obtain rfl : ov = Value.ref a := rx
  exact setattr_ok I2 ea c n l r fun s3 I3 => ⟨σ, _, I3, q2⟩
theorem Gr.gmN {T : Tbl} {M : Addr → Prop} {H0 H H' : Hp} (g0 : Gr T H0 H) (g : Gm M T H H') (hN : ∀ b, M b → Nw H0 b) : Gr T H0 H' := ⟨fun b o e n => g.kp b o (g0.1 b o e n) n fun hm => by
    obtain ⟨ps, z⟩ := hN b hm o e
    exact n ps z, fun t => g.tb (g0.2 t)⟩
section
variable {X : Cx} {T : Tbl} {S : Addr → Prop} {δ : Sl} {σ : L2.St} {H : Hp} {Q : L2.St → Hp → Prop} {o : Expr} {C x pl : Addr} {s : IS} {n : Nat} {v : V}
theorem gfld_run {f : Str} {d : PyData} {dx : Addr} {fs : List (Str × V)} (ad : Ad X.K T S H σ δ) (ho : Ev T X o δ (.rf x)) (r : Rp X.K S H v d) (hS : S x) (hH : H x = some (.ins C dx fs)) (hl : fs.length < 1000) (cl : Cls X.K C) (na : NoAttr X.K C f)
    (k : ∀ H', Gm (One x) T H H' → H' x = some (.ins C dx (putF f v fs)) → Rp X.K S H' v d → Q σ H') : gFld X.K (tB X o) f v σ H Q :=
  ho.run ad fun y H2 g2 r2 => by
    obtain rfl : y = .ref x := r2
    have h2 : H2 x = some (.ins C dx fs) := g2.1 _ _ hH (fun ps z => by cases z)
    have hM : ∀ b, One x b → S b := fun b hb => by rw [hb]; exact hS
    have sk2 := (ad.grow g2).sok
    have gm : Gm (One x) T H2 (L2.upd H2 x (.ins C dx (putF f v fs))) := Gm.upd rfl h2 trivial trivial
    exact ⟨x, C, dx, fs, rfl, h2, cl, na, hl, k _ ((Gm.of g2).trans gm) upd_same (Rp.gm gm hM (fun b hb => sk2 b (hM b hb)) (r.grow g2))⟩
theorem g_bk {bk : List Stay} (inn : InnAt X.K S H C x pl s n) (I : ITx X.K C) (ad : Ad X.K T S H σ δ) (ho : Ev T X o δ (.rf x)) (r : Rp X.K S H v (staysD bk)) (k : ∀ H', Gm (One x) T H H' → InnAt X.K S H' C x pl { s with bk := bk } n → Q σ H') (K' : PySem.W.Frag) (hK : K' = X.K) : gFld K' (tB X o) "own_booked" v σ H Q := by
  subst hK
  obtain ⟨dx, u1, u2, u3, u4, h1⟩ := inn.fs
  exact gfld_run ad ho r inn.sx h1 (fsOf_len _ _ _ _ _) I.cl I.nB fun H' g hx r' => k H' g (inn.putB (xs := []) ad.sok h1 g hx r')
theorem g_off {off : List Nat} (inn : InnAt X.K S H C x pl s n) (I : ITx X.K C) (ad : Ad X.K T S H σ δ) (ho : Ev T X o δ (.rf x)) (r : Rp X.K S H v (offD off)) (k : ∀ H', Gm (One x) T H H' → InnAt X.K S H' C x pl { s with off := off } n → Q σ H') (K' : PySem.W.Frag) (hK : K' = X.K) : gFld K' (tB X o) "own_off" v σ H Q := by
  subst hK
  obtain ⟨dx, u1, u2, u3, u4, h1⟩ := inn.fs
  exact gfld_run ad ho r inn.sx h1 (fsOf_len _ _ _ _ _) I.cl I.nO fun H' g hx r' => k H' g (inn.putO (xs := []) ad.sok h1 g hx r')
theorem g_rm {rm : List (Option Int)} (inn : InnAt X.K S H C x pl s n) (I : ITx X.K C) (ad : Ad X.K T S H σ δ) (ho : Ev T X o δ (.rf x)) (r : Rp X.K S H v (toldD rm)) (k : ∀ H', Gm (One x) T H H' → InnAt X.K S H' C x pl { s with rm := rm } n → Q σ H') (K' : PySem.W.Frag) (hK : K' = X.K) : gFld K' (tB X o) "own_rooms" v σ H Q := by
  subst hK
  obtain ⟨dx, u1, u2, u3, u4, h1⟩ := inn.fs
  exact gfld_run ad ho r inn.sx h1 (fsOf_len _ _ _ _ _) I.cl I.nR fun H' g hx r' => k H' g (inn.putR (xs := []) ad.sok h1 g hx r')
end
theorem fsOf_past (u1 u2 u3 u4 u5 : V) : (fsOf u1 u2 u3 u4 u5).lookup ("past" : Str) = some u5 := fs_past _ _ _ _ _
def spTwin (K : PySem.W.Frag) (T : Tbl) (C : Addr) : Sp := fun vs H Q _ => ∃ (S : Addr → Prop) (x pl : Addr) (s : IS) (m : Nat), vs = [.ref x] ∧ Sok S H ∧ Tabs T H ∧ InnAt K S H C x pl s m ∧ HouseOk s.h ∧
  ∀ (y pl' : Addr) (S' : Addr → Prop) (H' : Hp), (∀ b, S b → S' b) → (∀ b, S' b → S b ∨ Nw H b) → Nw H y → Nw H pl' → Gr T H H' → Sok S' H' → InnAt K S' H' C y pl' s m → Q (.ref y) H'
theorem sc_twin : FnScope ["self", "found"] ["self"] (defScope (sM 14)) := ⟨rfl, rfl, rfl, by decide +kernel, rfl, by decide +kernel, by decide +kernel⟩
section
variable {P : Program} {w : World} {K : PySem.W.Frag} {mg : Str → Option Value} {base : Heap} {T : Tbl} {C f fI : Addr} {fd fdI : FuncData}
theorem ok_twin (F : Fun K "twin" "Inn.twin" (sM 14) f fd) (B : Bn mg) (I : ITx K C) (M : Mk K C fI) (FI : FnOk P w K mg base CX0 6 fI fdI ["self", "house"] (spInit K T C)) (bI : Binds K fdI ["self", "house"] []) (gC : mg "Inn" = some (.ref C)) : FnOk P w K mg base CX0 8 f fd ["self"] (spTwin K T C) := by
  refine F.ok sc_twin (fun vs H Q E h => ?_) fun cdv A outer s0 H vs Q E hr h => ?_
  · obtain ⟨S, x, pl, s, m, rfl, _⟩ := h
    rfl
  obtain ⟨S, x, pl, s, m, rfl, sk, tb, inn, hh, q⟩ := h
  refine ⟨_, pss_cons (ps_set (i := 1) sc_twin.nd rfl (.inl rfl) (pe_make M FI hr rfl gC bI .nil pass0 (pa_cons (pe_best _) pa_nil))) (pss_cons (ps_asg (pe_best _) (pg_tup rfl (pgs_cons (pg_fld (pe_best _)) (pgs_cons (pg_fld (pe_best _)) (pgs_cons (pg_fld (pe_best _)) pgs_nil))))) (pss_cons (ps_fld (pe_best _) (pe_callTy call_list_of rfl B.list (by decide +kernel) (pa_cons (pe_fld (pe_best _) rfl) pa_nil)) rfl) (pss_one (ps_ret (pe_best _))))), ?_⟩
  have ad : Ad K T S H (L2.start ["self", "found"] [.ref x]) [some (.rf x), none] := ⟨sk, tb, SD.start (es := [.rf x]) (.cons rfl .nil)⟩
  generalize L2.start ["self", "found"] [V.ref x] = σ at ad ⊢
  refine seq_set (Ev.run (T := T) (r := .d (houseD s.h)) (ev_fld (C := C) (fs := innF s) (nm := innN) (y := x) (ev_n 0) I.cl I.nH rfl) (inn.ad ad 0 rfl) fun u H1 g1 r1 => fun y dx hy hdx hne => ?_)
  have gz1 : Gr T H1 (L2.upd H1 dx (.own y)) := Gr.new hdx
  have hy' : (L2.upd H1 dx (.own y)) y = none := by rw [upd_ne (Ne.symm hne)]; exact hy
  have gz2 : Gr T (L2.upd H1 dx (.own y)) (L2.upd (L2.upd H1 dx (.own y)) y (.ins C dx [])) := Gr.new hy'
  have gz : Gr T H (L2.upd (L2.upd H1 dx (.own y)) y (.ins C dx [])) := g1.trans (gz1.trans gz2)
  have r1 : Rp K S H1 u (houseD s.h) := r1
  have ru : Rp K (With S y) (L2.upd (L2.upd H1 dx (.own y)) y (.ins C dx [])) u (houseD s.h) := (r1.more fun b hb => hb.imp id fun e => by rw [e]; exact hy).grow (gz1.trans gz2)
  refine ⟨With S y, y, dx, u, s.h, rfl, fun b hb => ?_, gz.2 tb, .inr rfl, upd_same, ru, hh, fun pl0 H2 npl g2 sk2 inn2 => ⟨rfl, ?_⟩⟩
  · rcases hb with hb | hb
    · exact (sk.mono gz) b hb
    · rw [hb]
      exact ⟨_, upd_same, trivial⟩
  have nwy : Nw H y := Nw.gr g1 (Nw.of hy)
  have nwp : Nw H pl0 := Nw.gr gz npl
  have gr2 : Gr T H H2 := gz.gmN g2 fun b e => by rw [e]; exact nwy
  have hS2 : ∀ b, S b → With (With S y) pl0 b := fun b h => .inl (.inl h)
  have hN2 : ∀ b, With (With S y) pl0 b → S b ∨ Nw H b := fun b hb => by
    rcases hb with (hb | hb) | hb
    · exact .inl hb
    · right
      rw [hb]
      exact nwy
    · right
      rw [hb]
      exact nwp
  have adA := (ad.newS (M := fun _ => False) rfl (fun b hb => hb.elim) (Gm.of gr2) hS2 hN2 sk2).set 1 (v := .ref y) (e := .rf y) rfl
  have innO := inn.newS (M := fun _ => False) sk (fun b hb => hb.elim) id id (Gm.of gr2) hS2 hN2
  generalize hS2d : With (With S y) pl0 = S2 at *
  try dsimp only
  refine seq_tg (Ev.run (T := T) (r := .d (.tuple [staysD s.bk, offD s.off, toldD s.rm])) (ev_tup (evd_cons (ev_fld (C := C) (fs := innF s) (nm := innN) (y := x) (ev_n 0) I.cl I.nB rfl) (evd_cons (ev_fld (C := C) (fs := innF s) (nm := innN) (y := x) (ev_n 0) I.cl I.nO rfl) (evd_cons (ev_fld (C := C) (fs := innF s) (nm := innN) (y := x) (ev_n 0) I.cl I.nR rfl) evd_nil)))) (innO.ad adA 0 rfl) fun v H3 g3 r3 => ?_)
  have ad3 := adA.grow g3
  have inn3 := inn2.grow g3
  have innO3 := innO.grow g3
  have gr3 := gr2.trans g3
  have r3 : Rp K S2 H3 v (.tuple [staysD s.bk, offD s.off, toldD s.rm]) := r3
  cases r3 with
  | tup hq ha => cases ha with
    | cons h1 ha => cases ha with
      | cons h2 ha => cases ha with
        | cons h3 ha =>
          cases ha
          refine ⟨_, _, rfl, hq, rfl, _, _, rfl, ?_⟩
          refine g_bk (bk := s.bk) inn3 I ad3 (ev_n 1) h1 (fun H4 g4 inn4 => ?_) _ rfl
          have hM : ∀ b, One y b → S2 b := One.le inn2.sx
          have ad4 := ad3.gm rfl hM g4
          have sm3 : Sok (One y) H3 := fun b hb => ad3.sok b (hM b hb)
          have npx : ∀ b, One y b → Nw H b := fun b e => by rw [e]; exact nwy
          have gr4 := gr3.gmN g4 npx
          refine ⟨_, _, rfl, ?_⟩
          refine g_off (off := s.off) inn4 I ad4 (ev_n 1) (Rp.gm g4 hM sm3 h2) (fun H5 g5 inn5 => ?_) _ rfl
          have ad5 := ad4.gm rfl hM g5
          have gr5 := gr4.gmN g5 npx
          have sm4 : Sok (One y) H4 := fun b hb => ad4.sok b (hM b hb)
          refine ⟨_, _, rfl, ?_⟩
          refine g_rm (rm := s.rm) inn5 I ad5 (ev_n 1) (Rp.gm g5 hM sm4 (Rp.gm g4 hM sm3 h3)) (fun H6 g6 inn6 => ⟨rfl, ?_⟩) _ rfl
          have ad6 := ad5.gm rfl hM g6
          have gr6 := gr5.gmN g6 npx
          refine seq_id (fld_id ?_)
          refine Ev.run (T := T) (r := .rf x) (ev_n 0) ad6 fun o H7 g7 r7 => ?_
          obtain rfl : o = .ref x := r7
          have ad7 := ad6.grow g7
          have inn7 := inn6.grow g7
          have gr7 := gr6.trans g7
          obtain ⟨dxo, w1, w2, w3, w4, xs, o1, o2, o3, _⟩ := inn.at'
          have p1 := gr7.1 _ _ o1 (fun ps z => by cases z)
          have p2 := gr7.1 _ _ o2 (fun ps z => by cases z)
          refine ⟨x, C, dxo, _, _, rfl, p1, I.cl, I.nP, fs_past _ _ _ _ _, pl, xs, rfl, .inl (SqL.of p2), fun l hl => ?_⟩
          have gn : Gr T H7 (L2.upd H7 l (.lst xs)) := Gr.new hl
          have nwl : Nw H l := Nw.gr gr7 (Nw.of hl)
          refine Ev.run (T := T) (r := .rf y) (ev_n 1) (ad7.grow gn) fun o H8 g8 r8 => ?_
          obtain rfl : o = .ref y := r8
          have g78 := gn.trans g8
          have ad8 := ad7.grow g78
          have inn8 := inn7.grow g78
          have gr8 := gr7.trans g78
          have hl8 : H8 l = some (.lst xs) := g8.1 _ _ upd_same (fun ps z => by cases z)
          obtain ⟨dy, v1, v2, v3, v4, ys, y1, y2, y3, z1, z2, z3, z4⟩ := inn7.at'
          have y8 := g78.1 _ _ y1 (fun ps z => by cases z)
          refine ⟨y, C, dy, _, rfl, y8, I.cl, I.nP, fsOf_len _ _ _ _ _, ?_⟩
          have g9 : Gm (One y) T H8 (L2.upd H8 y (.ins C dy (putF "past" (.ref l) (fsOf v1 v2 v3 v4 (.ref pl0))))) := Gm.upd rfl y8 trivial trivial
          have nly : l ≠ y := fun e => by rw [e, y8] at hl8; cases hl8
          have hx9 : (L2.upd H8 y (.ins C dy (putF "past" (.ref l) (fsOf v1 v2 v3 v4 (.ref pl0))))) y = some (.ins C dy (fsOf v1 v2 v3 v4 (.ref l))) := by rw [upd_same, fs_put4]
          have hl9 : (L2.upd H8 y (.ins C dy (putF "past" (.ref l) (fsOf v1 v2 v3 v4 (.ref pl0))))) l = some (.lst xs) := by rw [upd_ne nly]; exact hl8
          generalize (L2.upd H8 y (.ins C dy (putF "past" (.ref l) (fsOf v1 v2 v3 v4 (.ref pl0))))) = H9 at g9 hx9 hl9 ⊢
          have ad9 := ad8.gm rfl hM g9
          have gr9 := gr8.gmN g9 npx
          have hM3 : ∀ b, One y b → With S2 l b := fun b hb => .inl (hM b hb)
          have sm8 : Sok (One y) H8 := fun b hb => ad8.sok b (hM b hb)
          have fin : ∀ {v : V} {d : PyData}, Rp K S2 H7 v d → Rp K (With S2 l) H9 v d := fun r => Rp.gm g9 hM3 sm8 ((r.more fun b hb => hb.imp id fun e => by rw [e]; exact hl).grow g78)
          try dsimp only
          refine ret_id (Ev.run (T := T) (r := .rf y) (ev_n 1) ad9 fun o HA gA rA => ?_)
          obtain rfl : o = .ref y := rA
          have inn9 : InnAt K (With S2 l) H9 C y l s m := ⟨.inl inn2.sx, .inr rfl, dy, v1, v2, v3, v4, xs, hx9, hl9, o3, fin z1, fin z2, fin z3, fin z4⟩
          refine q y l (With S2 l) HA (fun b hb => .inl (hS2 b hb)) (fun b hb => ?_) nwy nwl (gr9.trans gA) (fun b hb => ?_) (inn9.grow gA)
          · rcases hb with hb | hb
            · exact hN2 b hb
            · right
              rw [hb]
              exact nwl
          · refine Sok.mono gA (fun b hb => ?_) b hb
            rcases hb with hb | hb
            · exact ad9.sok b hb
            · rw [hb]
              exact ⟨_, hl9, trivial⟩
end
end N

/-! what is true of every inn stays true -/
namespace N
open PySem L2 LamX
theorem IOk.le {s : IS} {n m : Nat} (h : IOk s n) (hm : n ≤ m) : IOk s m := ⟨h.h, h.rm, Nat.le_trans h.bk hm, Nat.le_trans h.off hm, h.st, h.k8, h.fit, h.rr⟩
theorem IOk.new {h : List Int} (hh : HouseOk h) : IOk ⟨h, [], [], []⟩ 0 := ⟨hh, rfl, Nat.le_refl _, Nat.le_refl _, fun s hs => by simp at hs, Nat.zero_le _, rfl, fun r hr => by simp at hr⟩
theorem nums_book (s : IS) (st : Stay) : numsL (bookI s st) = numsL s ++ if s.bk.length ∈ s.off then [] else [s.bk.length] := by
  unfold numsL bookI
  dsimp only
  rw [List.length_append, List.length_singleton, List.range_succ, List.filter_append]
  congr 1
  by_cases h : s.bk.length ∈ s.off
  · rw [if_pos h, List.filter_cons_of_neg (by simp [h]), List.filter_nil]
  · rw [if_neg h, List.filter_cons_of_pos (by simp [h]), List.filter_nil]
theorem kept_book (s : IS) (st : Stay) : (keptL (bookI s st)).Sublist (keptL s ++ [st]) := by
  unfold keptL
  rw [nums_book, List.map_append]
  have e1 : (numsL s).map (fun (n : Nat) => (bookI s st).bk.getD n (0, 0, 0)) = (numsL s).map fun (n : Nat) => s.bk.getD n (0, 0, 0) := by
    refine List.map_congr_left fun n hn => ?_
    have hl := (numsL_mem.mp hn).1
    unfold bookI
    simp only [List.getD_eq_getElem?_getD]
    rw [List.getElem?_append_left hl]
  rw [e1]
  refine List.Sublist.append (List.Sublist.refl _) ?_
  by_cases h : s.bk.length ∈ s.off
  · rw [if_pos h]
    exact List.nil_sublist _
  · rw [if_neg h]
    unfold bookI
    simp
theorem IOk.book {s : IS} {n : Nat} {st : Stay} (h : IOk s n) (hm : mayB s st = true) (hs : StayOk st) : IOk (bookI s st) (n + 1) := by
  unfold mayB at hm
  rw [Bool.and_eq_true] at hm
  obtain ⟨m1, m2⟩ := hm
  have m1 : (keptL s).length ≠ 8 := by simpa using m1
  rw [kept_len] at m1
  have k8 := h.k8
  refine ⟨h.h, ?_, ?_, Nat.le_succ_of_le h.off, stays_app h.st hs, ?_, fits_sub (kept_book s st) (stays_app h.kept hs) m2, fun r hr => ?_⟩
  · show (s.rm ++ [none]).length = (s.bk ++ [st]).length
    rw [List.length_append, List.length_append, h.rm]
    rfl
  · show (s.bk ++ [st]).length ≤ n + 1
    rw [List.length_append]
    exact Nat.succ_le_succ h.bk
  · rw [nums_book, List.length_append]
    split
    · show (numsL s).length + 0 ≤ 8
      omega
    · show (numsL s).length + 1 ≤ 8
      omega
  · have hr : some r ∈ s.rm ++ [none] := hr
    rcases List.mem_append.mp hr with z | z
    · exact h.rr r z
    · simp at z
theorem nums_cancel (s : IS) (k : Nat) : (numsL (cancelI s k)).Sublist (numsL s) := by
  have e : numsL (cancelI s k) = (numsL s).filter fun n => !decide (n = k) := by
    unfold numsL cancelI
    dsimp only
    rw [List.filter_filter]
    refine List.filter_congr fun n _ => ?_
    have hp : n ∈ sortN (s.off ++ [k]) ↔ n ∈ s.off ∨ n = k := by
      rw [(sortN_perm _).mem_iff]
      simp
    have e1 : decide (n ∈ sortN (s.off ++ [k])) = (decide (n ∈ s.off) || decide (n = k)) := by
      rw [← Bool.decide_or]
      exact decide_eq_decide.mpr hp
    rw [e1]
    cases decide (n ∈ s.off) <;> cases decide (n = k) <;> rfl
  rw [e]
  exact List.filter_sublist
theorem setRm_mem {rm : List (Option Int)} {n : Nat} {o x : Option Int} (h : x ∈ setRm rm n o) : x ∈ rm ∨ x = o := by
  unfold setRm at h
  rw [List.mem_append, List.mem_append] at h
  rcases h with (z | z) | z
  · exact .inl (List.mem_of_mem_take z)
  · exact .inr (List.mem_singleton.mp z)
  · exact .inl (List.mem_of_mem_drop z)
theorem IOk.cancel {s : IS} {n k : Nat} (h : IOk s n) (hk : k ∈ numsL s) : IOk (cancelI s k) (n + 1) := by
  have hl := (numsL_mem.mp hk).1
  refine ⟨h.h, ?_, Nat.le_succ_of_le h.bk, ?_, h.st, Nat.le_trans (nums_cancel s k).length_le h.k8, fits_sub ((nums_cancel s k).map _) h.kept h.fit, fun r hr => ?_⟩
  · show (setRm s.rm k none).length = s.bk.length
    rw [setRm_len (by rw [h.rm]; exact hl), h.rm]
  · show (sortN (s.off ++ [k])).length ≤ n + 1
    rw [(sortN_perm _).length_eq, List.length_append]
    exact Nat.succ_le_succ h.off
  · rcases setRm_mem (o := none) hr with z | z
    · exact h.rr r z
    · cases z
theorem IOk.put {s : IS} {n k : Nat} {r : Int} (h : IOk s n) (hk : k ∈ numsL s) (hr : 0 ≤ r ∧ r < (s.h.length : Int)) : IOk (putI s k r) (n + 1) := by
  have hl := (numsL_mem.mp hk).1
  refine ⟨h.h, ?_, Nat.le_succ_of_le h.bk, Nat.le_succ_of_le h.off, h.st, h.k8, h.fit, fun r' hr' => ?_⟩
  · show (setRm s.rm k (some r)).length = s.bk.length
    rw [setRm_len (by rw [h.rm]; exact hl), h.rm]
  · rcases setRm_mem (o := some r) hr' with z | z
    · exact h.rr r' z
    · cases z
      exact hr
theorem getD_mem {s : IS} {k : Nat} (hk : k ∈ numsL s) : s.bk.getD k (0, 0, 0) ∈ keptL s := List.mem_map.mpr ⟨k, hk, rfl⟩
theorem IOk.room {s : IS} {n k : Nat} (h : IOk s n) (hk : k ∈ numsL s) : 1 ≤ (roomsOf s.h (s.bk.getD k (0, 0, 0))).length := by
  obtain ⟨r, hr⟩ := room_of h.kept h.fit (getD_mem hk)
  exact List.length_pos_of_mem hr
/-! ### the told stays -/
theorem lay_cons (d : PyData) (l : List PyData) : PyData.canLayAll0 (d :: l) = (d.canLay0 && PyData.canLayAll0 l) := by simp [PyData.canLayAll0]
theorem stay_lay (n : Nat) (s : Stay) : (PyData.tuple [.int (n : Int), stayD s]).canLay0 = true := by simp [PyData.canLayAll0, PyData.canLay0, stayD]
theorem stay_deep (n : Nat) (s : Stay) : (PyData.tuple [.int (n : Int), stayD s]).depth ≤ 8 := by simp [PyData.depth, PyData.depthAll, stayD]
theorem shapedL {m : Nat} : ∀ l : List PyData, (∀ d ∈ l, d.canLay0 = true ∧ d.depth ≤ m) → PyData.canLayAll0 l = true ∧ PyData.depthAll l ≤ m
  | [], _ => by simp [PyData.canLayAll0, PyData.depthAll]
  | d :: l, h => by
    obtain ⟨h1, h2⟩ := shapedL l fun x hx => h x (List.mem_cons_of_mem _ hx)
    obtain ⟨h3, h4⟩ := h d List.mem_cons_self
    refine ⟨by rw [lay_cons, h3, h1]; rfl, ?_⟩
    simp only [PyData.depthAll]
    omega
theorem tup_shaped {m : Nat} {l : List PyData} (hm : m ≤ 60) (h : ∀ d ∈ l, d.canLay0 = true ∧ d.depth ≤ m) : SeqAt.shaped (.tuple l) = true := by
  obtain ⟨h1, h2⟩ := shapedL l h
  unfold SeqAt.shaped
  rw [Bool.and_eq_true, decide_eq_true_eq]
  refine ⟨by simp [PyData.canLay0, h1], ?_⟩
  simp only [PyData.depth]
  omega
theorem book_shaped (s : IS) : SeqAt.shaped (bookD s) = true := by
  unfold bookD
  refine tup_shaped (m := 8) (by decide) fun d hd => ?_
  obtain ⟨n, _, rfl⟩ := List.mem_map.mp hd
  exact ⟨stay_lay _ _, stay_deep _ _⟩
theorem nil_shaped : SeqAt.shaped (.tuple []) = true := by simp [SeqAt.shaped, PyData.canLay0, PyData.canLayAll0, PyData.depth, PyData.depthAll]
theorem book_eqv (s : IS) : PyData.eqv (bookD s) (.tuple []) = (numsL s).isEmpty := by
  unfold bookD
  cases numsL s <;> simp [PyData.eqv, PyData.eqvAll]
end N

namespace N
open PySem L2 LamX
/-- what except, isinstance ask of the class NotNow -/
structure NTy (K : PySem.W.Frag) (mg : Str → Option Value) (CN CI : Addr) : Prop where
  gI : mg "InnError" = some (.ref CI)
  gN : mg "NotNow" = some (.ref CN)
  ex : PySem.W.exmOne K (.ref CN) (.ref CI) = some true
  xc : ExcC K CN
  ki : PySem.W.kitOne K (.ref CN) (.ref CN) = some true
/-- tried: the answer, or "not now" where NotNow is raised -/
def TTry (CN : Addr) : (XK → Hp → VK → Prop) → Hp → VK → Prop := fun tl H Q => tl (fun cls d H' => cls = .ref CN ∧ d = none ∧ Q (.str "not now") H') H Q
theorem sc_tried : FnScope ["_law_call", "e"] ["_law_call"] (defScope (top 80)) := ⟨rfl, rfl, rfl, by decide +kernel, rfl, by decide +kernel, by decide +kernel⟩
theorem tried_suite {X : Cx} {CN : Addr} {a : Addr} {oe : Obj} {cls : Value} {d : Option Addr} {pn : List (Addr × Obj)} {p1 p2 p3 p4 p5 p6 p7 p8 : Pos} {j1 j2 : Nat} {s1 s2 : Str} (hN : X.N = (["_law_call", "e"] : List Str)) (hgi : Gl X "isinstance") (hgn : Gl X "NotNow") (hve : Vis X.env.scope "e")
    (mi : X.mg "isinstance" = none) (mN : X.mg "NotNow" = some (.ref CN)) (xc : ExcC X.K CN) (ki : PySem.W.kitOne X.K (.ref CN) (.ref CN) = some true) (hz : Zc cls d oe) (hf : ∃ vs, oe.data = .fields vs)
    (hs : starEach [.Name "e" p2, .Name "NotNow" p3] X.env = (false, eval (.Name "e" p2) X.env) :: starEach [.Name "NotNow" p3] X.env) (hs2 : starEach [.Name "NotNow" p3] X.env = (false, eval (.Name "NotNow" p3) X.env) :: starEach [] X.env)
    (he : ∀ whole, isTrue (.Call (.Name "isinstance" p1) [.Name "e" p2, .Name "NotNow" p3] [] p4) X.env whole = (do let v ← whole; standAt (Expr.Call (.Name "isinstance" p1) [.Name "e" p2, .Name "NotNow" p3] [] p4).pos; holding [v] (truthy v))) :
    PSs (X.suite a ((a, oe) :: pn)) [.Return (some (.IfExp (.Call (.Name "isinstance" p1) [.Name "e" p2, .Name "NotNow" p3] [] p4) (.Constant (.str s1) j1 p5) (.Constant (.str s2) j2 p6) p7)) p8]
      (fun D σ H => cls = .ref CN ∧ d = none ∧ (∃ σ' : L2.St, σ = σ'.set 1 (some (.ref a))) ∧ D.rt (.str s1) H) := by
  refine ⟨fun pins s σ H D I h => ?_⟩
  obtain ⟨rfl, rfl, ⟨σ', rfl⟩, h⟩ := h
  have hl : (σ'.set 1 (some (V.ref a))).length = X.N.length := I.len
  have h1 : (σ'.set 1 (some (V.ref a)))[1]? = some (some (.ref a)) := by
    rw [List.length_set, hN] at hl
    exact List.getElem?_set_self (by rw [hl]; decide)
  exact (pss_one (ps_ret (pe_ifExp (pt_val (pe_callB (X := X.suite a ((a, oe) :: pn)) (call_isE xc hz hf) hgi mi (by decide +kernel) (pa_cons (pe_var (i := 1) (by show X.N[1]? = _; rw [hN]; rfl) hve (by decide) (by decide)) (pa_cons (pe_glob (v := .ref CN) hgn mN rfl) pa_nil hs2) hs) (he := hs) (hpl := by rw [hs2]; rfl)) he) pe_str pe_str))).run pins s _ H D I
    ⟨.ref a, h1, .ref CN, .ref CN, true, rfl, fun u r => r, ki, true, rfl, h⟩
theorem tried_gives {X : Cx} {CN CI : Addr} {q : Str} {g : Addr} {cdg : Value} (B : Bn X.mg) (Y : NTy X.K X.mg CN CI) : GivesTo X ["_law_call", "e"] "_law_tried" (defScope (top 80)) g cdg (defBody (top 80)) "_law_call" q (TTry CN) := by
  intro f c' s H Q tl act hc h
  refine ⟨_, pss_one (ps_try_as (X := (cxOf C8.CX0 X.prog X.w X.K X.mg X.base ["_law_call", "e"] "_law_tried" (defScope (top 80)) g cdg X.A X.stack s H C8.E0).nox) (i := 1) (c := .ref CI)
      (tb := fun W D σ H => ∃ Ech : XK, (∀ cls d σ' H', Ech cls d H' → W cls d σ' H') ∧ σ[0]? = some (some (.ref f)) ∧ H c' = some (CodeO c' q) ∧ tl Ech H D.rt)
      (ts := fun a cls d D σ H => cls = .ref CN ∧ d = none ∧ (∃ σ' : L2.St, σ = σ'.set 1 (some (.ref a))) ∧ D.rt (.str "not now") H)
      rfl rfl sc_tried.nd rfl rfl ⟨rfl, by decide, .inl Y.gI⟩ LamX.takes0 (fun W pn xe tk _ => ?_) (fun a oe cls d pn hz hf => tried_suite rfl rfl rfl (.inl rfl) B.isinstance Y.gN Y.xc Y.ki hz hf rfl rfl (by intro _; rfl))), ?_⟩
  · refine ⟨fun pins s' σ H' D I h' => ?_⟩
    obtain ⟨Ech, hW, h1, h2, h3⟩ := h'
    exact (pss_one (ps_ret (act W pn xe Ech _ _ tk hW))).run pins s' σ H' D I ⟨h1, h2, h3⟩
  · exact ⟨fun cls d H' => cls = .ref CN ∧ d = none ∧ Q (.str "not now") H', fun cls d σ' H' ⟨e1, e2, q⟩ => ⟨true, by rw [e1]; exact Y.ex, fun _ a _ => ⟨e1, e2, ⟨σ', rfl⟩, q⟩, fun z => by cases z⟩, rfl, hc, h⟩
/-- _law_tried(lambda: body) -/
theorem pe_tried {X : Cx} {T : Tbl} {CN CI g c P : Addr} {fd : FuncData} {k : Nat} {params : Arguments} {body : Expr} {scope : Scope} {t : XK → TE} {p lpos pos : Pos} (F : Fun X.K "_law_tried" "_law_tried" (top 80) g fd) (hb : Binds X.K fd ["_law_call"] []) (hm : X.mg "_law_tried" = some (.ref g)) (B : Bn X.mg) (Y : NTy X.K X.mg CN CI)
    (L : LmOk X.base X.mg T c P (X.env.qual ++ "<lambda>")) (hcode : X.env.code = .ref c) (hr : Room (k + 2) X.A) (LS : LamS X.env.scope scope) (hdef : defaultsOf params X.env = ([], []))
    (hbind : ∀ (q : Str) (cl : List (Str × Addr)) (pm cv ctv : Value), bindArgs (PySem.W.kla_fn "<lambda>" q params body scope cl pm cv ctv) ⟨[], []⟩ = pure [])
    (hbody : ∀ (A : Around) (outer : List Env) (s : Shared) (H : Hp) (E : XK) (f c' : Addr), Room k (A.deeper (lamEnv X scope s.heap.objs.size f c')) → PE (lamCx X A outer s H E scope f c') body (t E)) (hg : Gl X "_law_tried" := by rfl) :
    PE X (.Call (.Name "_law_tried" p) [.Lambda params body scope lpos] [] pos) (tLam T (TTry CN) t) := by
  obtain ⟨oc, od, kV, doc, pm, an, cd, ct, osl, rfl, lk, hcd⟩ := F.ex
  exact pe_lamcall hg hm F.kp lk hcd hb sc_tried rfl (.inl rfl) (tried_gives B Y) L.tb hcode L.mem L.uq hr LS hdef hbind hbody
/-! ### over every entry of a lambda -/
def lE (X : Cx) (k : Nat) (scope : Scope) (e : Expr) : TE := fun σ H Q => ∀ (A : Around) (outer : List Env) (s : Shared) (H0 : Hp) (E : XK) (f c' : Addr), Room k (A.deeper (lamEnv X scope s.heap.objs.size f c')) → tB (lamCx X A outer s H0 E scope f c') e σ H Q
def lA (X : Cx) (k : Nat) (scope : Scope) (es : List Expr) : TA := fun σ H Q => ∀ (A : Around) (outer : List Env) (s : Shared) (H0 : Hp) (E : XK) (f c' : Addr), Room k (A.deeper (lamEnv X scope s.heap.objs.size f c')) → tA (lamCx X A outer s H0 E scope f c') es σ H Q
theorem lE_ok {X : Cx} {k : Nat} {scope : Scope} {e : Expr} {A : Around} {outer : List Env} {s : Shared} {H0 : Hp} {E : XK} {f c' : Addr} (hr : Room k (A.deeper (lamEnv X scope s.heap.objs.size f c'))) : PE (lamCx X A outer s H0 E scope f c') e (lE X k scope e) := ⟨fun pins s2 σ H Q I h => h A outer s H0 E f c' hr pins s2 I⟩
theorem lA_ok {X : Cx} {k : Nat} {scope : Scope} {es : List Expr} {A : Around} {outer : List Env} {s : Shared} {H0 : Hp} {E : XK} {f c' : Addr} (hr : Room k (A.deeper (lamEnv X scope s.heap.objs.size f c'))) : PA (lamCx X A outer s H0 E scope f c') es (lA X k scope es) := ⟨fun pos pins s2 σ H Q I h => h A outer s H0 E f c' hr pos pins s2 I⟩
/-- a method that may raise -/
structure MdX (P : Program) (w : World) (K : PySem.W.Frag) (mg : Str → Option Value) (base : Heap) (C : Addr) (m : Str) (k : Nat) (ps : List Str) (sp : Sp) : Prop where
  ex : ∃ (f : Addr) (fd : FuncData), FnOk P w K mg base (L2.CX P w) k f fd ps sp ∧ Meth K C m f ∧ Binds K fd ps []
theorem Gr.mk' {T : Tbl} {H H1 : Hp} (e : ExtN H H1) (t : Tabs T H1) : Gr T H H1 := ⟨e, fun _ => t⟩
/-- _law_tried(lambda: o.m(es)) -/
theorem pe_triedm {X : Cx} {T : Tbl} {C CN CI g c P : Addr} {fd : FuncData} {k : Nat} {params : Arguments} {o e : Expr} {es : List Expr} {m : Str} {ps : List Str} {sp : Sp} {scope : Scope} {p lpos pos mpos apos : Pos} (F : Fun X.K "_law_tried" "_law_tried" (top 80) g fd) (hb : Binds X.K fd ["_law_call"] []) (hm : X.mg "_law_tried" = some (.ref g)) (B : Bn X.mg) (Y : NTy X.K X.mg CN CI)
    (L : LmOk X.base X.mg T c P (X.env.qual ++ "<lambda>")) (hcode : X.env.code = .ref c) (hr : Room (k + 2) X.A) (LS : LamS X.env.scope scope) (hdef : defaultsOf params X.env = ([], []))
    (hbind : ∀ (q : Str) (cl : List (Str × Addr)) (pm cv ctv : Value), bindArgs (PySem.W.kla_fn "<lambda>" q params (.Call (.Attribute o m apos) (e :: es) [] mpos) scope cl pm cv ctv) ⟨[], []⟩ = pure [])
    (D : MdX X.prog X.w X.K X.mg X.base C m k ps sp) (cl : Cls X.K C)
    (hse : ∀ (A : Around) (outer : List Env) (s : Shared) (H : Hp) (E : XK) (f c' : Addr), starEach (e :: es) (lamCx X A outer s H E scope f c').env = (false, eval e (lamCx X A outer s H E scope f c').env) :: starEach es (lamCx X A outer s H E scope f c').env)
    (hpl : ∀ (A : Around) (outer : List Env) (s : Shared) (H : Hp) (E : XK) (f c' : Addr), (backTo mpos (starEach es (lamCx X A outer s H E scope f c').env)).any (·.1) = false)
    (pl : ∀ (A : Around) (outer : List Env) (s : Shared) (H : Hp) (E : XK) (f c' : Addr), Sem Bool)
    (he : ∀ (A : Around) (outer : List Env) (s : Shared) (H : Hp) (E : XK) (f c' : Addr), eval (.Call (.Attribute o m apos) (e :: es) [] mpos) (lamCx X A outer s H E scope f c').env = (do
      let ov ← eval o (lamCx X A outer s H E scope f c').env
      standAt apos.atName
      let (f', first) ← holding [ov] (getMethod ov m (pl A outer s H E f c'))
      callWith mpos f' first (backTo mpos (starEach (e :: es) (lamCx X A outer s H E scope f c').env)) (backToKw mpos (keywordEach [] (lamCx X A outer s H E scope f c').env)))) (hg : Gl X "_law_tried" := by rfl) :
    PE X (.Call (.Name "_law_tried" p) [.Lambda params (.Call (.Attribute o m apos) (e :: es) [] mpos) scope lpos] [] pos) (tLam T (TTry CN) fun E => tMeth C m sp [] E (lE X k scope o) (lA X k scope (e :: es))) := by
  obtain ⟨f', fd', F', hm', hb'⟩ := D.ex
  exact pe_tried F hb hm B Y L hcode hr LS hdef hbind (fun A outer s H E f c' hr2 => pe_meth (pl := pl A outer s H E f c') (lE_ok hr2) cl hm' F' hr2 hb' .nil (L2.passes_call (L2.takes_of rfl rfl rfl rfl) fun _ _ _ _ h => h) (lA_ok hr2) (hse A outer s H E f c') (hpl A outer s H E f c') (he A outer s H E f c')) hg
end N

namespace N
open PySem L2 LamX
abbrev ledN : List Str := ["_law_pen_here", "_law_inn", "_law_house_here", "_law_turn", "_law_way", "_law_stays", "_law_number", "_law_stay", "_law_some", "_law_room"]
theorem sc_led : FnScope ledN ["_law_pen_here", "_law_inn", "_law_house_here"] (defScope (top 81)) := ⟨rfl, rfl, rfl, by decide +kernel, rfl, by decide +kernel, by decide +kernel⟩
def Trio (a x pl : Addr) : Addr → Prop := fun b => b = a ∨ b = x ∨ b = pl
theorem trio1 {a x pl : Addr} : ∀ b, One a b → Trio a x pl b := fun b e => .inl e
theorem trio2 {a x pl : Addr} : ∀ b, Two x pl b → Trio a x pl b := fun b e => .inr e
theorem two_le {K : PySem.W.Frag} {S : Addr → Prop} {H : Hp} {C x pl : Addr} {s : IS} {n : Nat} (h : InnAt K S H C x pl s n) : ∀ b, Two x pl b → S b := fun b e => e.elim (fun z => by rw [z]; exact h.sx) fun z => by rw [z]; exact h.sp
theorem trio_le {K : PySem.W.Frag} {S : Addr → Prop} {H : Hp} {C a x pl : Addr} {s : IS} {n m : Nat} (h : InnAt K S H C x pl s n) (p : Pn S H a m) : ∀ b, Trio a x pl b → S b := fun b e => e.elim (fun z => by rw [z]; exact p.1) (two_le h b)
theorem pen_ne {K : PySem.W.Frag} {S : Addr → Prop} {H : Hp} {C a x pl : Addr} {s : IS} {n m : Nat} (h : InnAt K S H C x pl s n) (p : Pn S H a m) : a ≠ x := fun e => by
  obtain ⟨dx, u1, u2, u3, u4, xs, h1, _⟩ := h.at'
  obtain ⟨_, p0, p1, p2, h2, _⟩ := p
  rw [e, h1] at h2
  cases h2
/-- the deeds' state: the inn s, its deeds, the pen's count -/
structure Led (K : PySem.W.Frag) (T : Tbl) (S : Addr → Prop) (H0 H : Hp) (C a x pl : Addr) (s : IS) (b m n : Nat) : Prop where
  inn : InnAt K S H C x pl s m
  pen : Pn S H a n
  ok : IOk s b
  gm : Gm (Trio a x pl) T H0 H
section
variable {K : PySem.W.Frag} {T : Tbl} {S : Addr → Prop} {H0 H H' : Hp} {C a x pl : Addr} {s s' : IS} {b m n b' m' n' : Nat} {σ : L2.St} {δ : Sl}
theorem Led.grow (h : Led K T S H0 H C a x pl s b m n) (g : Gr T H H') : Led K T S H0 H' C a x pl s b m n := ⟨h.inn.grow g, h.pen.grow g, h.ok, h.gm.trans (Gm.of g)⟩
theorem Led.le (h : Led K T S H0 H C a x pl s b m n) (hb : b ≤ b') (hm : m ≤ m') (hn : n ≤ n') : Led K T S H0 H C a x pl s b' m' n' := ⟨h.inn.le hm, h.pen.le hn, h.ok.le hb, h.gm⟩
/-- draws -/
theorem Led.drew (h : Led K T S H0 H C a x pl s b m n) (np : pl ≠ a) (ad : Ad K T S H σ δ) (g : Gm (One a) T H H') (p : Pn S H' a n') : Led K T S H0 H' C a x pl s b m n' :=
  ⟨h.inn.gm ad.sok h.pen.one (fun e => pen_ne h.inn h.pen e.symm) np g, p, h.ok, h.gm.trans (Gm.le trio1 (fun c hc => ad.sok c (trio_le h.inn h.pen c hc)) g)⟩
/-- a deed -/
theorem Led.did (h : Led K T S H0 H C a x pl s b m n) (np : pl ≠ a) (ad : Ad K T S H σ δ) (g : Gm (Two x pl) T H H') (i : InnAt K S H' C x pl s' m') (o : IOk s' b') : Led K T S H0 H' C a x pl s' b' m' n :=
  ⟨i, h.pen.gm (fun e => e.elim (pen_ne h.inn h.pen) fun z => np z.symm) g, o, h.gm.trans (Gm.le trio2 (fun c hc => ad.sok c (trio_le h.inn h.pen c hc)) g)⟩
end
def spLed (K : PySem.W.Frag) (T : Tbl) (C : Addr) : Sp := fun vs H Q _ => ∃ (S : Addr → Prop) (a x pl : Addr) (u : V) (s : IS) (b m n : Nat), vs = [.ref a, .ref x, u] ∧ Sok S H ∧ Tabs T H ∧ Led K T S H H C a x pl s b m n ∧ pl ≠ a ∧ b ≤ 100 ∧ m ≤ 100 ∧ n ≤ 1000 ∧ Rp K S H u (houseD s.h) ∧
  ∀ (s' : IS) (H' : Hp), s'.h = s.h → Led K T S H H' C a x pl s' (b + 11) (m + 11) (n + 200) → Q .non H'
section
variable {X : Cx} {T : Tbl} {S : Addr → Prop} {δ : Sl} {σ : L2.St} {H : Hp} {a : Addr} {e e1 e2 : Expr} {n k : Nat} {R : PyData → Prop}
theorem tA_one {Q : List V → Hp → Prop} (h : tB X e σ H fun v H1 => Q [v] H1) (hs : starEach [e] X.env = (false, eval e X.env) :: starEach [] X.env := by rfl) : tA X [e] σ H Q := fun pos pins s I => (pa_cons (pe_best X) pa_nil hs).run pos pins s σ H Q I h
theorem Evaz.run {es : List Expr} {Rs : List PyData → Prop} {Q : List V → Hp → Prop} (h : Evaz T X a es δ k Rs) (ad : Ad X.K T S H σ δ) (pn : Pn S H a n) (hn : n + k ≤ 90000) (q : ∀ vs H' ds, Gm (One a) T H H' → Pn S H' a (n + k) → Rs ds → RpA X.K S H' vs ds → Q vs H') : tA X es σ H Q := h S σ H n ad pn hn Q q
/-- _law_guest(pen, house) -/
theorem guest_run {h : List Int} {p pos : Pos} {Q : VK} (D : Dfn X.prog X.w X.K X.mg X.base "_law_guest" 2 ["_law_pen_here", "_law_house_here"] (spGuest X.K T)) (hr : Room 2 X.A) (ad : Ad X.K T S H σ δ) (pn : Pn S H a n) (hn : n ≤ 80000) (hh : HouseOk h) (h1 : Ev T X e1 δ (.rf a)) (h2 : Ev T X e2 δ (.d (houseD h)))
    (q : ∀ (v : V) (H' : Hp) (st : Stay), StayOk st → Gm (One a) T H H' → Pn S H' a (n + 7) → Rp X.K S H' v (stayD st) → Q v H') (hg : Gl X "_law_guest" := by rfl)
    (hs : starEach [e1, e2] X.env = (false, eval e1 X.env) :: starEach [e2] X.env := by rfl) (hs2 : starEach [e2] X.env = (false, eval e2 X.env) :: starEach [] X.env := by rfl) : tB X (.Call (.Name "_law_guest" p) [e1, e2] [] pos) σ H Q := fun pins s' I' => by
  obtain ⟨f, fd, F, hmg, hk, hbd⟩ := D.ex
  refine (pe_call F hr hg hmg hk hbd .nil pass0 (pa_cons (pe_best X) (pa_cons (pe_best X) pa_nil hs2) hs) (by decide) hs (by rw [hs2]; rfl)).run pins s' σ H Q I' ?_
  refine h1.run ad fun v H1 g1 r1 => h2.run (ad.grow g1) fun w H2 g2 r2 => ?_
  obtain rfl : v = .ref a := r1
  have ad2 := (ad.grow g1).grow g2
  exact ⟨S, a, w, h, n, rfl, ad2.sok, ad2.tab, (pn.grow g1).grow g2, hn, r2, hh, fun v' H3 st hst g3 p3 r3 => q v' H3 st hst ((Gm.of (g1.trans g2)).trans g3) p3 r3⟩
/-- the first of a told row -/
theorem evz_ixT0 {j : Nat} {p pos : Pos} (h1 : Evz T X a e δ k (fun d => ∃ y r, d = .tuple (y :: r) ∧ R y)) (hst : stb δ = true := by rfl) (hp : PlainIx (.Constant (.int 0) j p) := by intro _ _; rfl) : Evz T X a (.Subscript e (.Constant (.int 0) j p) pos) δ (k + 0) R :=
  evz_of (pe_ix ix_tup (pe_best X) (pe_best X) hp) (edz_op h1 (evz_ev (R := fun d => d = .int 0) ev_i rfl) hst fun S H v w d1 d2 _ _ r1 r2 q1 q2 Q kk => by
    subst r2
    obtain ⟨y, r, rfl, hR⟩ := r1
    cases q1 with
    | tup hq ha =>
      obtain ⟨u, e1, e2⟩ := ix_get ha (i := 0) (d := y) (by rw [atI_nat (Int.le_refl 0) (by rw [List.length_cons]; omega)]; rfl)
      exact ⟨_, _, 0, u, rfl, Rp.int_inv q2, hq, e1, kk u H _ (Gr.refl H) hR e2⟩)
end
section
variable {P : Program} {w : World} {K : PySem.W.Frag} {mg : Str → Option Value} {base : Heap} {T : Tbl} {C CN CI f g : Addr} {fd fdg : FuncData}
/-- what the deeds call -/
structure LedC (P : Program) (w : World) (K : PySem.W.Frag) (mg : Str → Option Value) (base : Heap) (T : Tbl) (C CN : Addr) : Prop where
  draw : Dfn P w K mg base "_law_draw" 1 ["_law_pen_here", "_law_many"] (spDraw T)
  guest : Dfn P w K mg base "_law_guest" 2 ["_law_pen_here", "_law_house_here"] (spGuest K T)
  stays : Mdn P w K mg base C "stays" 2 ["self"] (sp_stays K T C)
  book : MdX P w K mg base C "book" 6 ["self", "stay"] (spBook K T C CN)
  put : MdX P w K mg base C "put" 8 ["self", "number", "room"] (spPut K T C CN)
  cancel : Mdn P w K mg base C "cancel" 4 ["self", "number"] (spCancel K T C)
/-- the slots of the deeds at a turn's head -/
def ledD (a x : Addr) (h : List Int) : Sl := [some (.rf a), some (.rf x), some (.d (houseD h)), none, none, none, none, none, none, none]
theorem atI_book {s : IS} {n : Nat} (hn : n < (numsL s).length) : ∃ k ∈ numsL s, ((numsL s).map fun (n : Nat) => PyData.tuple [.int (n : Int), stayD (s.bk.getD n (0, 0, 0))])[n]? = some (.tuple [.int (k : Int), stayD (s.bk.getD k (0, 0, 0))]) := by
  refine ⟨(numsL s)[n], List.getElem_mem hn, ?_⟩
  rw [List.getElem?_map, List.getElem?_eq_getElem hn]
  rfl
end
end N

namespace N
open PySem L2 LamX
theorem par_id {ta : TA} {i j : Nat} {D : Ends} {σ : L2.St} {H : Hp} (h : ta σ H fun vs H1 => ∃ v w, vs = [v, w] ∧ D.nx ((σ.set i (some v)).set j (some w)) H1) : tPar i j ta D σ H := h
theorem tried_id {T : Tbl} {CN : Addr} {t : XK → TE} {σ : L2.St} {H : Hp} {Q : VK} (tb : Tabs T H) (h : ∀ H1, Gr T H H1 → t (fun cls d H' => cls = .ref CN ∧ d = none ∧ Q (.str "not now") H') σ H1 Q) : tLam T (TTry CN) t σ H Q := ⟨tb, fun H1 eN t1 => h H1 (Gr.mk' eN t1)⟩
theorem lmeth_run {X : Cx} {T : Tbl} {S : Addr → Prop} {δ : Sl} {k : Nat} {scope : Scope} {o : Expr} {es : List Expr} {m : Str} {sp : Sp} {E : XK} {σ : L2.St} {H : Hp} {Q : VK} {C x dx : Addr} {fs : List (Str × V)}
    (ho : ∀ (A : Around) (outer : List Env) (s : Shared) (H0 : Hp) (E : XK) (f c' : Addr), Ev T (lamCx X A outer s H0 E scope f c') o δ (.rf x)) (ad : Ad X.K T S H σ δ) (hx : H x = some (.ins C dx fs)) (hm : fs.lookup m = none)
    (h : ∀ H1, Gr T H H1 → lA X k scope es σ H1 fun vs H2 => sp (.ref x :: (vs ++ [])) H2 Q E) : tMeth C m sp [] E (lE X k scope o) (lA X k scope es) σ H Q := fun A outer s H0 E' f c' hr =>
  (ho A outer s H0 E' f c').run ad fun v H1 g r => by
    obtain rfl : v = .ref x := r
    exact ⟨x, dx, fs, rfl, g.1 _ _ hx (fun ps z => by cases z), hm, h H1 g⟩
theorem led_le {a x : Addr} {h : List Int} {p3 p4 p5 p6 p7 p8 p9 : Option E} : Le (ledD a x h) [some (.rf a), some (.rf x), some (.d (houseD h)), p3, p4, p5, p6, p7, p8, p9] := ⟨rfl, fun i e q => by
  unfold ledD at q
  rcases i with _ | _ | _ | _ | _ | _ | _ | _ | _ | _ | i
  · exact q
  · exact q
  · exact q
  all_goals simp at q⟩
def putEs (i : Nat) : Stmt := top i
section
variable {P : Program} {w : World} {K : PySem.W.Frag} {mg : Str → Option Value} {base : Heap} {T : Tbl} {C CN CI f g c Pt : Addr} {fd fdg : FuncData}
/-- one turn's deed is told -/
def LedP (K : PySem.W.Frag) (T : Tbl) (S : Addr → Prop) (H : Hp) (C a x pl : Addr) (h : List Int) (b m n i : Nat) (σ : L2.St) (H' : Hp) : Prop := ∃ s : IS, s.h = h ∧ Ad K T S H' σ (ledD a x h) ∧ Led K T S H H' C a x pl s (b + i) (m + i) (n + 1 + 9 * i)
theorem ok_led (F : FunC K "_law_led" "_law_led" (top 81) f fd c) (B : Bn mg) (I : ITx K C) (Y : NTy K mg CN CI) (L : LmOk base mg T c Pt (("_law_led" : Str) ++ (".<locals>." : Str) ++ ("<lambda>" : Str))) (Ft : Fun K "_law_tried" "_law_tried" (top 80) g fdg) (bt : Binds K fdg ["_law_call"] []) (mt : mg "_law_tried" = some (.ref g)) (D : LedC P w K mg base T C CN) :
    FnOk P w K mg base CX0 11 f fd ["_law_pen_here", "_law_inn", "_law_house_here"] (spLed K T C) := by
  obtain ⟨fc, fdc, Fc, mc, bc⟩ := D.cancel.ex
  refine F.ok sc_led (fun vs H Q E h => ?_) fun A outer s0 H vs Q E hr h => ?_
  · obtain ⟨S, a, x, pl, u, s, b, m, n, rfl, _⟩ := h
    rfl
  obtain ⟨S, a, x, pl, u, s0, b, m, n, rfl, sk, tb, led, np, hb, hm, hn, ru, q⟩ := h
  refine ⟨_, pss_one (ps_for PassesOwn.never rfl (pi_range1 rfl B.range (pa_cons (pe_best _) pa_nil)) (pg_name (i := 3) sc_led.nd rfl (.inl rfl)) (pss_cons (ps_par (i := 4) (j := 5) rfl sc_led.nd rfl rfl (by decide) rfl rfl (pa_cons (pe_best _) (pa_cons (pe_best _) pa_nil)) rfl)
    (pss_one (ps_if (pt_best _) (pss_one (ps_if (pt_best _) (pss_one (ps_expr (pe_triedm (k := 6) Ft bt mt B Y L rfl (hr.mono (by decide)) (lamS_by rfl) rfl (fun _ _ _ _ _ => rfl) D.book I.cl (fun _ _ _ _ _ _ _ => rfl) (fun _ _ _ _ _ _ _ => rfl) _ (fun _ _ _ _ _ _ _ => rfl)))) pss_nil))
      (pss_one (ps_if (pt_best _) (pss_cons (ps_asg (pe_best _) pg_best) (pss_cons (ps_set (i := 8) sc_led.nd rfl (.inr rfl) (pe_best _)) (pss_one (ps_expr (pe_triedm (k := 8) Ft bt mt B Y L rfl hr (lamS_by rfl) rfl (fun _ _ _ _ _ => rfl) D.put I.cl (fun _ _ _ _ _ _ _ => rfl) (fun _ _ _ _ _ _ _ => rfl) _ (fun _ _ _ _ _ _ _ => rfl))))))
        (pss_one (ps_expr (pe_meth (pe_best _) I.cl mc Fc (hr.mono (by decide)) bc .nil pass0 (pa_cons (pe_best _) pa_nil)))))))))), ?_⟩
  have ad : Ad K T S H (L2.start ledN [.ref a, .ref x, u]) (ledD a x s0.h) := ⟨sk, tb, SD.start (es := [.rf a, .rf x, .d (houseD s0.h)]) (.cons rfl (.cons rfl (.cons ru .nil)))⟩
  generalize L2.start ledN [V.ref a, V.ref x, u] = σ at ad ⊢
  refine Evz.run (T := T) (a := a) (k := 1) (R := IntIn 4 11) ?_ ad led.pen (by omega) fun v H1 d g1 p1 r1 q1 => ?_
  · exact evz_mono (evz_add (i := 4) (lo := 0) (hi := 7) (k := 1) ev_i (evz_draw (lo := 8) (hi := 8) (k := 0) D.draw (hr.mono (by decide)) (ev_n 0) (evz_ev ev_i ⟨8, rfl, by decide, by decide⟩) (by decide))) fun d h => h
  obtain ⟨j, rfl, j1, j2⟩ := r1
  have led1 := led.drew np ad g1 p1
  have ad1 := ad.gm rfl led.pen.one g1
  refine ⟨j, by rw [Rp.int_inv q1], by omega, by omega, for_range (LedP K T S H C a x pl s0.h b m n) ⟨s0, rfl, ad1, led1.le (by omega) (by omega) (by omega)⟩ (fun i σ2 H2 hi hp => ?_) (fun σ2 H2 hp => ?_)⟩
  case refine_2 =>
    obtain ⟨s, e, _, l⟩ := hp
    exact q s _ e (l.le (by omega) (by omega) (by omega))
  obtain ⟨s, eh, ad2, led2⟩ := hp
  have ad3 := ad2.set 3 (v := .int (0 + (i : Int))) (e := .d (.int (0 + (i : Int)))) (Rp.int _)
  have hbk := led2.ok.bk
  refine seq_id (par_id (Evz.run (T := T) (a := a) (k := 1) (R := IntIn 0 4) ?_ ad3 led2.pen (by omega) fun v H3 d g3 p3 r3 q3 => ?_))
  · exact evz_mono (evz_draw (lo := 5) (hi := 5) (k := 0) D.draw (hr.mono (by decide)) (ev_n 0) (evz_ev ev_i ⟨5, rfl, by decide, by decide⟩) (by decide)) fun d h => h
  obtain ⟨way, rfl, w1, w2⟩ := r3
  obtain rfl := Rp.int_inv q3
  have led3 := led2.drew np ad3 g3 p3
  have ad4 := ad3.gm rfl led2.pen.one g3
  refine Ev.run (T := T) (r := .d (bookD s)) (ev_meth0I D.stays I.cl (hr.mono (by decide)) (x, s) (ev_n 1) (by decide) rfl (by show s.bk.length ≤ 1000; omega) rfl) (led3.inn.ad ad4 1 rfl) fun v H4 g4 r4 => ⟨_, _, rfl, ?_⟩
  have led4 := led3.grow g4
  have ad5 := ((ad4.grow g4).set 4 (v := .int way) (e := .d (.int way)) (Rp.int _)).set 5 (e := .d (bookD s)) r4
  clear ad3 ad4 led3
  dsimp only
  generalize ((σ2.set 3 (some (V.int (0 + (i : Int))))).set 4 (some (V.int way))).set 5 (some v) = σ5 at ad5 ⊢
  refine if_id (Evt.run (T := T) (b := decide (way < 3) || (numsL s).isEmpty) ?_ ad5 fun H5 g5 => ?_)
  · exact evt_or (evt_lt (ev_n 4) ev_i) fun _ => evt_is (evt_eqD hr.units (ev_n 5) (ev_tup evd_nil) (book_shaped s) nil_shaped) (book_eqv s)
  have led5 := led4.grow g5
  have ad6 := ad5.grow g5
  by_cases ht : (decide (way < 3) || (numsL s).isEmpty) = true
  · rw [if_pos ht]
    refine if_id (Evt.run (T := T) (b := decide (((numsL s).length : Int) < 8)) ?_ ad6 fun H6 g6 => ?_)
    · exact evt_is (evt_lt (ev_lenT (ds := (numsL s).map fun (n : Nat) => PyData.tuple [.int (n : Int), stayD (s.bk.getD n (0, 0, 0))]) B (ev_n 5)) ev_i) (by rw [List.length_map])
    have led6 := led5.grow g6
    have ad7 := ad6.grow g6
    by_cases h8 : ((numsL s).length : Int) < 8
    · rw [if_pos (decide_eq_true h8)]
      refine drop_id (tried_id ad7.tab fun H7 g7 => ?_)
      have led7 := led6.grow g7
      have ad8 := ad7.grow g7
      obtain ⟨dx, u1, u2, u3, u4, hx⟩ := led7.inn.fs
      refine lmeth_run (fun A' o' s' H0' E' f' c'' => ev_n 1) ad8 hx (fsOf_no (by decide)) fun H8 g8 => fun A' o' s' H0' E' f' c'' hr' => ?_
      have led8 := led7.grow g8
      have ad9 := ad8.grow g8
      refine tA_one (guest_run (a := a) (h := s0.h) (n := n + 1 + 9 * i + 1) D.guest (hr'.mono (by decide)) ad9 led8.pen (by omega) (by rw [← eh]; exact led8.ok.h) (ev_n 0) (ev_n 2) fun v' H9 st hst g9 p9 r9 => ?_)
      have led9 := led8.drew np ad9 g9 p9
      have adA := ad9.gm rfl led8.pen.one g9
      refine ⟨S, x, pl, s, m + i, v', st, rfl, adA.sok, adA.tab, led9.inn, by omega, r9, hst, led9.ok.le (by omega), fun hmay HA gA iA => ?_, fun _ HA gA => ⟨rfl, rfl, ?_⟩⟩
      · exact ⟨bookI s st, eh, (adA.gm rfl (two_le led9.inn) gA).le led_le, (led9.did np adA gA iA (led9.ok.book hmay hst)).le (by omega) (by omega) (by omega)⟩
      · exact ⟨s, eh, (adA.grow gA).le led_le, (led9.grow gA).le (by omega) (by omega) (by omega)⟩
    · rw [if_neg (by rw [decide_eq_false h8]; exact Bool.false_ne_true)]
      exact ⟨s, eh, ad7.le led_le, led6.le (by omega) (by omega) (by omega)⟩
  rw [if_neg ht]
  have hne : 1 ≤ (numsL s).length := by
    cases e : numsL s with
    | nil =>
      rw [e] at ht
      exact absurd (by simp) ht
    | cons y r => simp
  have hmem : ∀ y ∈ (numsL s).map (fun (n : Nat) => PyData.tuple [.int (n : Int), stayD (s.bk.getD n (0, 0, 0))]), ∃ k ∈ numsL s, y = .tuple [.int (k : Int), stayD (s.bk.getD k (0, 0, 0))] := fun y hy => by
    obtain ⟨k, hk, e⟩ := List.mem_map.mp hy
    exact ⟨k, hk, e.symm⟩
  have h8' := led5.ok.k8
  refine if_id (Evt.run (T := T) (b := decide (way = 3)) (evt_eq (ev_n 4) ev_i) ad6 fun H6 g6 => ?_)
  have led6 := led5.grow g6
  have ad7 := ad6.grow g6
  by_cases h3 : way = 3
  · rw [if_pos (decide_eq_true h3)]
    refine seq_id (asg_id (Evz.run (T := T) (a := a) (k := 1) (R := fun d => ∃ k ∈ numsL s, d = .tuple [.int (k : Int), stayD (s.bk.getD k (0, 0, 0))]) ?_ ad7 led6.pen (by omega) fun v H8 d g8 p8 r8 q8 => ?_))
    · exact evz_mono (evz_ixT (ds := (numsL s).map fun (n : Nat) => PyData.tuple [.int (n : Int), stayD (s.bk.getD n (0, 0, 0))]) (k := 1) (ev_n 5) (evz_mono (evz_draw (lo := ((numsL s).length : Int)) (hi := ((numsL s).length : Int)) (k := 0) D.draw (hr.mono (by decide)) (ev_n 0) (evz_ev (ev_is (ev_lenT (ds := (numsL s).map fun (n : Nat) => PyData.tuple [.int (n : Int), stayD (s.bk.getD n (0, 0, 0))]) B (ev_n 5)) (by rw [List.length_map])) ⟨_, rfl, Int.le_refl _, Int.le_refl _⟩) (by omega)) fun d h => by rw [List.length_map]; exact h) hmem) fun d h => h
    obtain ⟨k, hk, rfl⟩ := r8
    have led8 := led6.drew np ad7 g8 p8
    have ad8 := ad7.gm rfl led6.pen.one g8
    have hkl := (numsL_mem.mp hk).1
    refine (evg_tup (evgs_cons (evg_n 6 sc_led.nd) (evgs_cons (evg_n 7 sc_led.nd) evgs_nil))) S _ H8 v ad8 q8 _ fun σ9 ad9 bt9 => ?_
    dsimp only
    refine seq_id (set_id (Ev.run (T := T) (r := .d (.list ((roomsOf s0.h (s.bk.getD k (0, 0, 0))).map .int))) ?_ ad9 fun v9 HA gA rA => ?_))
    · refine ev_is (ev_lc (js := [9]) [("_law_room", 9)] (List.range s0.h.length) (fun (i : Nat) => PyData.int (i : Int)) (fun (i : Nat) => decide ((s.bk.getD k (0, 0, 0)).1 ≤ s0.h.getD ((i : Int)).toNat 0)) (fun (i : Nat) => PyData.int (i : Int)) sc_led.nd rfl (evi_r1' B (ev_lenT (ds := s0.h.map .int) B (ev_n 2)) (by rw [List.length_map]) ?_) ?_ fun y hy => ?_) ?_
      · have := led8.ok.h.2.1
        rw [← eh]
        omega
      · have := led8.ok.h.2.1
        rw [List.length_range, ← eh]
        omega
      · rw [List.mem_range] at hy
        refine ⟨_, fun s' H0 C' cl fp => ⟨evg_n 9 sc_led.nd, evts_one (evt_ge (ev_ixT (ds := s0.h.map .int) (i := (y : Int)) (ev_n 2) (ev_n 9) ?_) (ev_ixT (i := 0) (ev_n 7) ev_i ?_)), fun _ => ev_n 9⟩⟩
        · rw [atI_nat (by omega) (by rw [List.length_map]; omega), Int.toNat_natCast, List.getElem?_map, List.getD_eq_getElem?_getD, List.getElem?_eq_getElem hy]
          rfl
        · rfl
      · unfold roomsOf
        rw [List.filter_map, List.map_map]
        rfl
    have adA := (ad9.grow gA).set 8 rA
    have ledA := led8.grow gA
    have hlr := ledA.ok.room hk
    have hrl : (roomsOf s0.h (s.bk.getD k (0, 0, 0))).length ≤ 5 := by
      refine Nat.le_trans (List.length_filter_le _ _) ?_
      rw [List.length_map, List.length_range, ← eh]
      exact ledA.ok.h.2.1
    rw [eh] at hlr
    dsimp only
    generalize σ9.set 8 (some v9) = σA at adA ⊢
    refine drop_id (tried_id adA.tab fun HB gB => ?_)
    have ledB := ledA.grow gB
    have adB := adA.grow gB
    obtain ⟨dx, u1, u2, u3, u4, hx⟩ := ledB.inn.fs
    refine lmeth_run (fun A' o' s' H0' E' f' c'' => ev_n 1) adB hx (fsOf_no (by decide)) fun HC gC => fun A' o' s' H0' E' f' c'' hr' => ?_
    have ledC := ledB.grow gC
    have adC := adB.grow gC
    refine Evaz.run (a := a) (evaz_cons (a := a) (k1 := 0) (k2 := 1) (R := fun d => d = .int (k : Int)) (evz_ev (ev_n 6) rfl) (evaz_cons (k1 := 1) (k2 := 0) (R := fun d => ∃ r ∈ roomsOf s0.h (s.bk.getD k (0, 0, 0)), d = .int r) ?_ evaz_nil)) adC ledC.pen (by omega) fun vs HD ds gD pD rD qD => ?_
    · refine evz_mono (evz_ixL (m := (roomsOf s0.h (s.bk.getD k (0, 0, 0))).length) (k1 := 0) (k2 := 1) (R := fun d => ∃ r ∈ roomsOf s0.h (s.bk.getD k (0, 0, 0)), d = .int r) (evz_ev (ev_n 8) ⟨_, rfl, ⟨Nat.le_of_eq (List.length_map ..).symm, Nat.le_of_eq (List.length_map ..)⟩, fun y hy => ?_⟩) (evz_mono (evz_draw (lo := ((roomsOf s0.h (s.bk.getD k (0, 0, 0))).length : Int)) (hi := ((roomsOf s0.h (s.bk.getD k (0, 0, 0))).length : Int)) (k := 0) D.draw (hr'.mono (by decide)) (ev_n 0) (evz_ev (ev_is (ev_lenL (ds := (roomsOf s0.h (s.bk.getD k (0, 0, 0))).map .int) B (ev_n 8)) (by rw [List.length_map])) ⟨_, rfl, Int.le_refl _, Int.le_refl _⟩) (by omega)) fun d h => h)) fun d h => h
      obtain ⟨r, hr, e⟩ := List.mem_map.mp hy
      exact ⟨r, hr, e.symm⟩
    obtain ⟨d1, r1, rfl, rfl, d2, r2, rfl, ⟨r, hrr, rfl⟩, rfl⟩ := rD
    have ledD := ledC.drew np adC gD pD
    have adD := adC.gm rfl ledC.pen.one gD
    cases qD with
    | cons qa qs => cases qs with
      | cons qb qs =>
        cases qs
        obtain rfl := Rp.int_inv qa
        obtain rfl := Rp.int_inv qb
        refine ⟨S, x, pl, s, m + i, k, r, rfl, adD.sok, adD.tab, ledD.inn, by omega, hk, by rw [eh]; exact hrr, ledD.ok.le (by omega), fun hmay HE gE iE => ?_, fun _ HE gE => ⟨rfl, rfl, ?_⟩⟩
        · refine ⟨putI s k r, eh, (adD.gm rfl (two_le ledD.inn) gE).le led_le, (ledD.did np adD gE iE (ledD.ok.put hk ?_)).le (by omega) (by omega) (by omega)⟩
          rw [eh]
          exact (roomsOf_may hrr).1
        · exact ⟨s, eh, (adD.grow gE).le led_le, (ledD.grow gE).le (by omega) (by omega) (by omega)⟩
  · rw [if_neg (by rw [decide_eq_false h3]; exact Bool.false_ne_true)]
    refine drop_id (Ev.run (T := T) (r := .rf x) (ev_n 1) ad7 fun o H8 g8 r8 => ?_)
    obtain rfl : o = .ref x := r8
    have led8 := led6.grow g8
    have ad8 := ad7.grow g8
    obtain ⟨dx, u1, u2, u3, u4, hx⟩ := led8.inn.fs
    refine ⟨x, dx, _, rfl, hx, fsOf_no (by decide), ?_⟩
    refine Evz.run (T := T) (a := a) (k := 1) (R := fun d => ∃ k ∈ numsL s, d = .int (k : Int)) ?_ ad8 led8.pen (by omega) fun v H9 d g9 p9 r9 q9 => ?_
    · refine evz_mono (evz_ixT0 (k := 1) (R := fun d => ∃ k ∈ numsL s, d = .int (k : Int)) (evz_mono (evz_ixT (ds := (numsL s).map fun (n : Nat) => PyData.tuple [.int (n : Int), stayD (s.bk.getD n (0, 0, 0))]) (k := 1) (ev_n 5) (evz_mono (evz_draw (lo := ((numsL s).length : Int)) (hi := ((numsL s).length : Int)) (k := 0) D.draw (hr.mono (by decide)) (ev_n 0) (evz_ev (ev_is (ev_lenT (ds := (numsL s).map fun (n : Nat) => PyData.tuple [.int (n : Int), stayD (s.bk.getD n (0, 0, 0))]) B (ev_n 5)) (by rw [List.length_map])) ⟨_, rfl, Int.le_refl _, Int.le_refl _⟩) (by omega)) fun d h => by rw [List.length_map]; exact h) hmem) ?_)) fun d h => h
      rintro d ⟨k, hk, rfl⟩
      exact ⟨_, _, rfl, k, hk, rfl⟩
    obtain ⟨k, hk, rfl⟩ := r9
    obtain rfl := Rp.int_inv q9
    have led9 := led8.drew np ad8 g9 p9
    have ad9 := ad8.gm rfl led8.pen.one g9
    refine ⟨S, x, pl, s, m + i, k, rfl, ad9.sok, ad9.tab, led9.inn, by omega, hk, led9.ok.rm, by omega, by have := led9.ok.off; omega, fun HA gA iA => ?_⟩
    exact ⟨cancelI s k, eh, (ad9.gm rfl (two_le led9.inn) gA).le led_le, (led9.did np ad9 gA iA (led9.ok.cancel hk)).le (by omega) (by omega) (by omega)⟩
end
end N

namespace N
open PySem L2 LamX
abbrev prN : List Str := ["_law_inn", "_law_house_here", "_law_stays", "_law_rooms", "_law_told", "_law_near", "_law_number", "_law_stay", "_law_room", "_law_own"]
theorem sc_pr : FnScope prN ["_law_inn", "_law_house_here"] (defScope (top 82)) := ⟨rfl, rfl, rfl, by decide +kernel, rfl, by decide +kernel, by decide +kernel⟩
abbrev sp_pr (K : PySem.W.Frag) (T : Tbl) (C : Addr) : Sp := spN (α := Addr × IS) K T (fun a => [innE C a.1 a.2, .d (houseD a.2.h)]) (fun a => IOk a.2 900) (fun a => .d (.bool true))
theorem ints_lay (l : List Int) : (intsD l).canLay0 = true ∧ (intsD l).depth ≤ 8 := by
  obtain ⟨h1, h2⟩ := shapedL (m := 1) (l.map .int) fun d hd => by
    obtain ⟨i, _, rfl⟩ := List.mem_map.mp hd
    simp [PyData.canLay0, PyData.depth]
  refine ⟨by simp [intsD, PyData.canLay0, h1], ?_⟩
  simp only [intsD, PyData.depth]
  omega
theorem str_lay {x : Str} (h : PyData.strOk x = true) : (PyData.str x).canLay0 = true ∧ (PyData.str x).depth ≤ 8 := by simp [PyData.canLay0, PyData.depth, h]
theorem int_lay (i : Int) : (PyData.int i).canLay0 = true ∧ (PyData.int i).depth ≤ 8 := by simp [PyData.canLay0, PyData.depth]
theorem two_shaped {d e : PyData} (h1 : d.canLay0 = true ∧ d.depth ≤ 8) (h2 : e.canLay0 = true ∧ e.depth ≤ 8) : SeqAt.shaped (.tuple [d, e]) = true := tup_shaped (m := 8) (by decide) fun x hx => by
  rcases List.mem_cons.mp hx with z | z
  · rw [z]; exact h1
  · rw [List.mem_singleton.mp z]; exact h2
theorem eqv_same {d : PyData} (h : SeqAt.shaped d = true) : PyData.eqv d d = true := SeqAt.eqv_refl d (SeqAt.canLay_of_shaped h)
theorem lst_shaped {l : List PyData} (h : ∀ d ∈ l, d.canLay0 = true ∧ d.depth ≤ 8) : SeqAt.shaped (.list l) = true := by
  obtain ⟨h1, h2⟩ := shapedL l h
  unfold SeqAt.shaped
  rw [Bool.and_eq_true, decide_eq_true_eq]
  refine ⟨by simp [PyData.canLay0, h1], ?_⟩
  simp only [PyData.depth]
  omega
theorem lst0_shaped : SeqAt.shaped (.list []) = true := lst_shaped fun d hd => by simp at hd
theorem lst_eqv (l : List PyData) : PyData.eqv (.list l) (.list []) = l.isEmpty := by cases l <;> simp [PyData.eqv, PyData.eqvAll]
def anyR (l : List (Option Int)) : Bool := l.any fun o => o.isSome
theorem anyR_filter (l : List (Option Int)) : ((l.filter fun o => o.isSome).map optD).isEmpty = !anyR l := by
  unfold anyR
  induction l with
  | nil => rfl
  | cons o l ih =>
    cases o with
    | none => simpa using ih
    | some i => simp
theorem anyR_nones {l : List (Option Int)} (h : anyR l = false) : l = nones l.length := by
  unfold anyR at h
  unfold nones
  induction l with
  | nil => rfl
  | cons o l ih =>
    cases o with
    | none => simp only [List.length_cons, List.replicate_succ]; rw [← ih (by simpa using h)]
    | some i => simp at h
theorem okS_plan : PyData.strOk ("plan" : Str) = true := by decide +kernel
theorem okS_none : PyData.strOk ("none" : Str) = true := by decide +kernel
theorem strN_shaped : SeqAt.shaped (.str "none") = true := by simp [SeqAt.shaped, PyData.canLay0, PyData.depth, okS_none]
theorem pairs_zip (l : List Int) (rm : List (Option Int)) : pairsD (l.map .int) (rm.map optD) = (l.zip rm).map fun p => .tuple [.int p.1, optD p.2] := by
  induction l generalizing rm with
  | nil => simp [pairsD]
  | cons i l ih =>
    cases rm with
    | nil => simp [pairsD]
    | cons o rm => simp [pairsD, ih]
def offQ (p : Int × Option Int) : Bool := match p.2 with
  | none => false
  | some o => !decide (o = p.1)
theorem off_none {l : List Int} {rm : List (Option Int)} (hl : l.length = rm.length) (h : ∀ n, n < rm.length → ∀ o, rm.getD n none = some o → l.getD n 0 = o) : (l.zip rm).filter offQ = [] := by
  rw [List.filter_eq_nil_iff]
  intro p hp
  obtain ⟨n, hn, e⟩ := List.mem_iff_getElem.mp hp
  rw [List.length_zip] at hn
  rw [List.getElem_zip] at e
  have q := h n (by omega)
  rw [List.getD_eq_getElem?_getD, List.getElem?_eq_getElem (by omega : n < rm.length), List.getD_eq_getElem?_getD, List.getElem?_eq_getElem (by omega : n < l.length)] at q
  rw [← e]
  unfold offQ
  dsimp only
  cases e2 : rm[n] with
  | none => simp
  | some o =>
    have : l[n] = o := q o (by rw [e2]; rfl)
    simp [this]
theorem kept_shape (s : IS) {n : Nat} (h : IOk s n) : StB (keptL s) 8 := ⟨by rw [kept_len]; exact h.k8, h.kept⟩
theorem rooms_in (s : IS) {n : Nat} (h : IOk s n) : RoomsIn s.h (keptL s) (roomsL s) := ⟨by rw [rooms_len, kept_len], fun r hr => by
  unfold roomsL at hr
  obtain ⟨k, hk, e⟩ := List.mem_map.mp hr
  have hl : k < s.rm.length := by rw [h.rm]; exact (numsL_mem.mp hk).1
  rw [List.getD_eq_getElem?_getD, List.getElem?_eq_getElem hl] at e
  have e : s.rm[k] = some r := e
  exact h.rr r (by rw [← e]; exact List.getElem_mem hl)⟩
section
variable {P : Program} {w : World} {K : PySem.W.Frag} {mg : Str → Option Value} {base : Heap} {T : Tbl} {C f : Addr} {fd : FuncData}
/-- what plan_right calls -/
structure PrC (P : Program) (w : World) (K : PySem.W.Frag) (mg : Str → Option Value) (base : Heap) (T : Tbl) (C : Addr) : Prop where
  stays : Mdn P w K mg base C "stays" 2 ["self"] (sp_stays K T C)
  rooms : Mdn P w K mg base C "rooms" 2 ["self"] (sp_rooms K T C)
  mplan : Mdn P w K mg base C "plan" 8 ["self"] (sp_mplan K T C)
  fits : Dfn P w K mg base "fits" 8 ["house", "stays"] (sp_fits K T)
  nearest : Dfn P w K mg base "nearest" 8 ["house", "stays", "told"] (sp_nearest K T)
  plan : Dfn P w K mg base "plan" 9 ["house", "stays"] (sp_plan K T)
  shows : Dfn P w K mg base "shows_plan" 8 ["house", "stays", "thing"] (sp_shows K T)
/-- tuple([stay for number, stay in inn.stays()]) -/
theorem ev_kept {X : Cx} {δ : Sl} {x : Addr} {s : IS} {scope : Scope} {o : Expr} {i j : Nat} {p pos p1 p2 p3 p4 p5 p6 pq : Pos} {kk : Nat} (own : List (Str × Nat)) (hown : own.map (·.2) = [i, j]) (B : Bn X.mg) (I : ITx X.K C) (D : Mdn X.prog X.w X.K X.mg X.base C "stays" 2 ["self"] (sp_stays X.K T C)) (hr : Room 2 X.A) (hN : X.N.Nodup) (hok : blkC X.N X.env.scope scope own = true) (hb : s.bk.length ≤ 1000)
    (ho : Ev T X (.Call (.Attribute o "stays" p1) [] [] p2) δ (.d (bookD s)))
    (turn : ∀ (n : Nat), ∃ δ', ∀ (s' : Shared) (H0 : Hp) (C' : Addr) (cl : List (Str × Addr)) (fp : List Addr), Evg T (X.blk s' H0 scope (compEnvC scope cl C' X.env) fp) [i, j] (.Tuple [.Name "_law_number" p3, .Name "_law_stay" p4] kk p5) (wipeD δ (own.map (·.2))) (.tuple [.int (n : Int), stayD (s.bk.getD n (0, 0, 0))]) δ' ∧ Ev T (X.blk s' H0 scope (compEnvC scope cl C' X.env) fp) (.Name "_law_stay" p6) δ' (.d (stayD (s.bk.getD n (0, 0, 0)))))
    (hc : X.calm = true := by rfl) (hg : Gl X "tuple" := by rfl) (hfs : ∀ x, foldedSetIterable (.Call (.Attribute o "stays" p1) [] [] p2) X.env x = pure x := by intro _; rfl)
    (hs : starEach [.ListComp (.Name "_law_stay" p6) [⟨.Tuple [.Name "_law_number" p3, .Name "_law_stay" p4] kk p5, .Call (.Attribute o "stays" p1) [] [] p2, [], 0⟩] scope pq] X.env = (false, eval (.ListComp (.Name "_law_stay" p6) [⟨.Tuple [.Name "_law_number" p3, .Name "_law_stay" p4] kk p5, .Call (.Attribute o "stays" p1) [] [] p2, [], 0⟩] scope pq) X.env) :: starEach [] X.env := by rfl) :
    Ev T X (.Call (.Name "tuple" p) [.ListComp (.Name "_law_stay" p6) [⟨.Tuple [.Name "_law_number" p3, .Name "_law_stay" p4] kk p5, .Call (.Attribute o "stays" p1) [] [] p2, [], 0⟩] scope pq] [] pos) δ (.d (staysD (keptL s))) := by
  refine ev_tupL (ds := (keptL s).map stayD) B (ev_is (ev_lcM (js := [i, j]) own (numsL s) (fun (n : Nat) => PyData.tuple [.int (n : Int), stayD (s.bk.getD n (0, 0, 0))]) (fun (n : Nat) => stayD (s.bk.getD n (0, 0, 0))) hN hok (evi_tup ho) (by have := numsL_len s; omega) (fun n hn => ?_) (by rw [hown]; exact fun j h => h) hc hfs) ?_) hg hs
  · obtain ⟨δ', t⟩ := turn n
    exact ⟨δ', fun s' H0 C' cl fp => ⟨(t s' H0 C' cl fp).1, evts_nil, fun _ => (t s' H0 C' cl fp).2⟩⟩
  · unfold keptL
    rw [List.map_map]
    rfl
end
end N

namespace N
open PySem L2 LamX
section
variable {P : Program} {w : World} {K : PySem.W.Frag} {mg : Str → Option Value} {base : Heap} {T : Tbl} {C f : Addr} {fd : FuncData}
theorem ok_pr (F : Fun K "_law_plan_right" "_law_plan_right" (top 82) f fd) (B : Bn mg) (I : ITx K C) (D : PrC P w K mg base T C) : FnOk P w K mg base CX0 10 f fd ["_law_inn", "_law_house_here"] (sp_pr K T C) := by
  refine fn_mkN F sc_pr (fun _ => rfl) fun cdv A outer s0 H E hr a hp => ⟨.rt (.d (.bool true)), ?_, rfl⟩
  obtain ⟨x, s⟩ := a
  dsimp only at hp ⊢
  have hb := hp.bk
  have h5 := hp.h.2.1
  have hkl : (keptL s).length = (numsL s).length := kept_len s
  have hrl : (roomsL s).length = (keptL s).length := by rw [rooms_len, kept_len]
  have hk8 : (keptL s).length ≤ 8 := by rw [hkl]; exact hp.k8
  have hsh := kept_shape s hp
  refine evb_cons (evs_par 2 3 (r := .d (staysD (keptL s))) (r2 := .d (toldD (roomsL s))) ?_ ?_ sc_pr.nd) ?_
  · refine ev_kept (i := 6) (j := 7) (x := x) [("_law_number", 6), ("_law_stay", 7)] rfl B I D.stays (hr.mono (by decide)) sc_pr.nd rfl (by omega) (ev_meth0I D.stays I.cl (hr.mono (by decide)) (x, s) (ev_n 0) (by decide) rfl (by show s.bk.length ≤ 1000; omega) rfl) fun n => ⟨_, fun s' H0 C' cl fp => ⟨evg_tup (evgs_cons (evg_n 6 sc_pr.nd) (evgs_cons (evg_n 7 sc_pr.nd) evgs_nil)), ev_n 7⟩⟩
  · exact ev_meth0I D.rooms I.cl (hr.mono (by decide)) (x, s) (ev_n 0) (by decide) rfl ⟨by show s.bk.length ≤ 1000; omega, hp.rm⟩ rfl
  refine evb_cons (evs_if (u := false) (evt_is (evt_or (u := false) (v := false) (evt_is (evt_neD hr.units ?_ (ev_tup (ds := [.str "fits"]) (evd_cons ev_s evd_nil)) (fits_shaped s.h (keptL s)) fits1_shaped) (by rw [fits_eqv, hp.fit]; rfl)) fun _ => evt_is (evt_ne (ev_lenT (ds := (roomsL s).map optD) B (ev_n 3)) (ev_lenT (ds := (keptL s).map stayD) B (ev_n 2))) ?_) rfl) (fun z => by cases z) (fun _ => evb_nil)) ?_
  · exact ev_callI D.fits (hr.mono (by decide)) (s.h, keptL s) (eva_cons (ev_n 1) (eva_cons (ev_n 2) eva_nil)) ⟨hp.h, hsh⟩ rfl
  · rw [List.length_map, List.length_map, hrl]
    simp
  refine evb_cons (evs_par 4 5 (r := .d (optL (planWith s.h (keptL s) (roomsL s)))) (r2 := .d (nearD (nearO s.h (keptL s) (roomsL s)))) ?_ ?_ sc_pr.nd) ?_
  · exact ev_meth0I D.mplan I.cl (hr.mono (by decide)) (x, s) (ev_n 0) (by decide) rfl ⟨by show s.bk.length ≤ 1000; omega, hp.rm, h5, hp.k8⟩ rfl
  · exact ev_callI D.nearest (hr.mono (by decide)) (s.h, keptL s, roomsL s) (eva_cons (ev_n 1) (eva_cons (ev_n 2) (eva_cons (ev_n 3) eva_nil))) ⟨hp.h, hsh, rooms_in s hp, least_holds (by unfold freeL; rw [List.length_map])⟩ rfl
  have hP0 : PlanOk s.h (keptL s) (nones (keptL s).length) := plan_holds h5 (nones_len _)
  rcases plan_near (h := s.h) hrl with ⟨e1, e2⟩ | ⟨l, e1, e2, sh, ag⟩
  · rw [e1]
    refine evb_cons (evs_if (u := false) (evt_is (evt_neB (i := true) (j := true) (ev_is (ev_isN (e := .d (optL none)) (ev_n 4)) rfl) ?_) rfl) (fun z => by cases z) (fun _ => evb_nil)) ?_
    · rcases e2 with e2 | ⟨m, r, e2, hm⟩
      · rw [e2]
        exact ev_is (ev_or (u := true) (v := true) (ev_is (ev_isN (e := .d (nearD none)) (ev_n 5)) rfl) fun z => by cases z) rfl
      · rw [e2]
        refine ev_is (ev_or (u := false) (v := true) (ev_is (ev_isN (e := .d (nearD (some (m, r)))) (ev_n 5)) rfl) fun _ => ev_one (ev_is (ev_gt (i := m) (j := 0) (ev_ixT (ds := [.int m, intsD r]) (i := 0) (ev_n 5) ev_i rfl) ev_i) ?_)) rfl
        rw [decide_eq_true hm]
    refine evb_out (evs_if (u := true) (evt_is (evt_isN (e := .d (optL none)) (ev_n 4)) rfl) (fun _ => evb_one (evs_ret ?_)) (fun z => by cases z)) rfl
    refine ev_is (ev_or (u := anyR (roomsL s)) (v := !anyR (roomsL s)) (ev_is (ev_neD hr.units (d1 := .list (((roomsL s).filter fun o => o.isSome).map optD)) (d2 := .list []) ?_ (ev_lst evd_nil) ?_ lst0_shaped) ?_) fun ha => ev_one ?_) (by cases anyR (roomsL s) <;> rfl)
    · refine ev_lc (js := [8]) [("_law_room", 8)] (roomsL s) optD (fun o => o.isSome) optD sc_pr.nd rfl (evi_tup (ev_n 3)) (by omega) fun o ho => ?_
      refine ⟨_, fun s' H0 C' cl fp => ⟨evg_n 8 sc_pr.nd, evts_one (evt_is (evt_notN (e := .d (optD o)) (ev_n 8)) (by cases o <;> rfl)), fun _ => ev_n 8⟩⟩
    · refine lst_shaped fun d hd => ?_
      obtain ⟨o, _, rfl⟩ := List.mem_map.mp hd
      cases o <;> simp [optD, PyData.canLay0, PyData.depth]
    · rw [lst_eqv, anyR_filter, Bool.not_not]
    · have hno : roomsL s = nones (keptL s).length := by rw [← hrl]; exact anyR_nones ha
      rw [hno] at e1
      have hlot := nones_plan (h := s.h) (st := keptL s) e1
      have ep : planD s.h (keptL s) = .tuple [.str "none", lotD (((lotsOf (keptL s).length).find? fun lot => !haveB s.h (keptL s) lot).getD [])] := by
        unfold planD
        rw [e1]
      rw [ha]
      refine ev_is (ev_eqD hr.units (d1 := .str "none") (d2 := .str "none") (ev_ixT (ds := [.str "none", lotD (((lotsOf (keptL s).length).find? fun lot => !haveB s.h (keptL s) lot).getD [])]) (i := 0) ?_ ev_i rfl) ev_s strN_shaped strN_shaped) (by rw [eqv_same strN_shaped]; rfl)
      exact ev_callI D.plan hr (s.h, keptL s) (eva_cons (ev_n 1) (eva_cons (ev_n 2) eva_nil)) ⟨hp.h, hsh, hP0, fun _ => hlot⟩ (by rw [ep])
  · rw [e1, e2]
    refine evb_cons (evs_if (u := false) (evt_is (evt_neB (i := false) (j := false) (ev_is (ev_isN (e := .d (optL (some l))) (ev_n 4)) rfl) ?_) rfl) (fun z => by cases z) (fun _ => evb_nil)) ?_
    · refine ev_is (ev_or (u := false) (v := false) (ev_is (ev_isN (e := .d (nearD (some (0, l)))) (ev_n 5)) rfl) fun _ => ev_one (ev_is (ev_gt (i := 0) (j := 0) (ev_ixT (ds := [.int 0, intsD l]) (i := 0) (ev_n 5) ev_i rfl) ev_i) ?_)) rfl
      rfl
    refine evb_cons (evs_if (u := false) (evt_is (evt_isN (e := .d (optL (some l))) (ev_n 4)) rfl) (fun z => by cases z) (fun _ => evb_nil)) ?_
    have hlay := ints_lay l
    have hs0 : SeqAt.shaped (.tuple [.int 0, intsD l]) = true := two_shaped (int_lay 0) hlay
    have hsp : SeqAt.shaped (.tuple [.str "plan", intsD l]) = true := two_shaped (str_lay okS_plan) hlay
    refine evb_cons (evs_if (u := false) (evt_is (evt_or (u := false) (v := false) (evt_is (evt_not (u := true) (evt_v ?_)) rfl) fun _ => evt_is (evt_neD hr.units (d1 := .tuple [.int 0, intsD l]) (d2 := .tuple [.int 0, intsD l]) (ev_n 5) (ev_tup (evd_cons ev_i (evd_cons (ev_n 4) evd_nil))) hs0 hs0) (by rw [eqv_same hs0]; rfl)) rfl) (fun z => by cases z) (fun _ => evb_nil)) ?_
    · exact ev_callI D.shows (hr.mono (by decide)) (s.h, keptL s, l) (eva_cons (ev_n 1) (eva_cons (ev_n 2) (eva_cons (r := .d (.tuple [.str "plan", intsD l])) (ev_tup (evd_cons ev_s (evd_cons (ev_n 4) evd_nil))) eva_nil))) ⟨hp.h, hsh, sh⟩ rfl
    refine evb_cons (evs_if (u := false) (evt_is (evt_neD hr.units (d1 := .list (((l.zip (roomsL s)).filter offQ).map fun _ => PyData.int 1)) (d2 := .list []) ?_ (ev_lst evd_nil) ?_ lst0_shaped) ?_) (fun z => by cases z) (fun _ => evb_nil)) ?_
    · refine ev_lc (js := [8, 9]) [("_law_room", 8), ("_law_own", 9)] (l.zip (roomsL s)) (fun p => .tuple [.int p.1, optD p.2]) offQ (fun _ => .int 1) sc_pr.nd rfl ?_ (by rw [List.length_zip]; omega) fun p hp => ?_
      · rw [← pairs_zip]
        exact evi_zipT B (ev_n 4) (ev_n 3)
      · obtain ⟨r, o⟩ := p
        refine ⟨_, fun s' H0 C' cl fp => ⟨evg_tup (evgs_cons (evg_n 8 sc_pr.nd) (evgs_cons (evg_n 9 sc_pr.nd) evgs_nil)), evts_one ?_, fun _ => ev_i⟩⟩
        cases o with
        | none => exact evt_is (evt_and (u := false) (v := false) (evt_is (evt_notN (e := .d (optD none)) (ev_n 9)) rfl) fun z => by cases z) rfl
        | some o => exact evt_is (evt_and (u := true) (v := !decide (o = r)) (evt_is (evt_notN (e := .d (optD (some o))) (ev_n 9)) rfl) fun _ => evt_ne (ev_n 9) (ev_n 8)) rfl
    · rw [off_none (by rw [sh.len, hrl]) fun n hn o ho => ag n (by rw [← hrl]; exact hn) o ho]
      exact lst0_shaped
    · rw [off_none (by rw [sh.len, hrl]) fun n hn o ho => ag n (by rw [← hrl]; exact hn) o ho]
      rfl
    refine evb_one (evs_ret ?_)
    refine ev_is (ev_or (u := anyR (roomsL s)) (v := !anyR (roomsL s)) (ev_is (ev_neD hr.units (d1 := .list (((roomsL s).filter fun o => o.isSome).map optD)) (d2 := .list []) ?_ (ev_lst evd_nil) ?_ lst0_shaped) ?_) fun ha => ev_one ?_) (by cases anyR (roomsL s) <;> rfl)
    · refine ev_lc (js := [8]) [("_law_room", 8)] (roomsL s) optD (fun o => o.isSome) optD sc_pr.nd rfl (evi_tup (ev_n 3)) (by omega) fun o ho => ?_
      refine ⟨_, fun s' H0 C' cl fp => ⟨evg_n 8 sc_pr.nd, evts_one (evt_is (evt_notN (e := .d (optD o)) (ev_n 8)) (by cases o <;> rfl)), fun _ => ev_n 8⟩⟩
    · refine lst_shaped fun d hd => ?_
      obtain ⟨o, _, rfl⟩ := List.mem_map.mp hd
      cases o <;> simp [optD, PyData.canLay0, PyData.depth]
    · rw [lst_eqv, anyR_filter, Bool.not_not]
    · have hno : roomsL s = nones (keptL s).length := by rw [← hrl]; exact anyR_nones ha
      rw [hno] at e1
      have ep : planD s.h (keptL s) = .tuple [.str "plan", intsD l] := by
        unfold planD
        rw [e1]
      rw [ha]
      refine ev_is (ev_eqD hr.units (d1 := .tuple [.str "plan", intsD l]) (d2 := .tuple [.str "plan", intsD l]) ?_ (ev_tup (evd_cons ev_s (evd_cons (ev_n 4) evd_nil))) hsp hsp) (by rw [eqv_same hsp]; rfl)
      exact ev_callI D.plan hr (s.h, keptL s) (eva_cons (ev_n 1) (eva_cons (ev_n 2) eva_nil)) ⟨hp.h, hsh, hP0, fun z => by rw [e1] at z; cases z⟩ (by rw [ep])
end
end N

namespace N
open PySem L2 LamX
abbrev brN : List Str := ["_law_pen_here", "_law_inn", "_law_house_here", "_law_stays", "_law_kind", "_law_nights", "_law_some", "_law_night", "_law_first", "_law_twin", "_law_done", "_law_number", "_law_stay"]
theorem sc_br : FnScope brN ["_law_pen_here", "_law_inn", "_law_house_here"] (defScope (top 83)) := ⟨rfl, rfl, rfl, by decide +kernel, rfl, by decide +kernel, by decide +kernel⟩
def spBr (K : PySem.W.Frag) (T : Tbl) (C : Addr) : Sp := fun vs H Q _ => ∃ (S : Addr → Prop) (a x pl : Addr) (u : V) (s : IS) (m n : Nat), vs = [.ref a, .ref x, u] ∧ Sok S H ∧ Tabs T H ∧ InnAt K S H C x pl s m ∧ Pn S H a n ∧ pl ≠ a ∧ IOk s 900 ∧ m ≤ 800 ∧ n ≤ 2000 ∧ Rp K S H u (houseD s.h) ∧
  ∀ (H' : Hp), InnAt K S H' C x pl s m → Pn S H' a (n + 3) → Gm (One a) T H H' → Q (.bl true) H'
/-- what begins_right calls -/
structure BrC (P : Program) (w : World) (K : PySem.W.Frag) (mg : Str → Option Value) (base : Heap) (T : Tbl) (C CN : Addr) : Prop where
  draw : Dfn P w K mg base "_law_draw" 1 ["_law_pen_here", "_law_many"] (spDraw T)
  stays : Mdn P w K mg base C "stays" 2 ["self"] (sp_stays K T C)
  begins : Dfn P w K mg base "begins" 8 ["house", "stays", "kind", "nights"] (sp_begins K T)
  left : Dfn P w K mg base "left" 8 ["house", "stays", "night", "kind"] (sp_left K T)
  mleft : Mdn P w K mg base C "left" 5 ["self", "night", "kind"] (sp_mleft K T C)
  twin : Mdn P w K mg base C "twin" 8 ["self"] (spTwin K T C)
  book : MdX P w K mg base C "book" 6 ["self", "stay"] (spBook K T C CN)
def doneD (s : IS) (st : Stay) : PyData := if mayB s st = true then .int (s.bk.length : Int) else .str "not now"
theorem okS_not : PyData.strOk ("not now" : Str) = true := by decide +kernel
theorem strNN_shaped : SeqAt.shaped (.str "not now") = true := by simp [SeqAt.shaped, PyData.canLay0, PyData.depth, okS_not]
theorem done_shaped (s : IS) (st : Stay) : SeqAt.shaped (doneD s st) = true := by
  unfold doneD
  split
  · exact int_shaped _
  · exact strNN_shaped
theorem done_eqv (s : IS) (st : Stay) : (!PyData.eqv (doneD s st) (.str "not now")) = mayB s st := by
  unfold doneD
  cases mayB s st with
  | true => rw [if_pos rfl]; simp [PyData.eqv]
  | false => rw [if_neg (by decide), eqv_same strNN_shaped]; rfl
theorem may_fits {s : IS} {st : Stay} (h : (keptL s).length < 8) : mayB s st = fitsB s.h (keptL s ++ [st]) := by
  unfold mayB
  rw [decide_eq_false (by omega)]
  rfl
/-- the slots of the law's loop at a turn's head -/
def brD (a x : Addr) (s : IS) (kd ng nt : Int) (some_ : List Int) : Sl := [some (.rf a), some (.rf x), some (.d (houseD s.h)), some (.d (staysD (keptL s))), some (.d (.int kd)), some (.d (.int ng)), some (.d (.tuple (some_.map .int))), some (.d (.int nt)), none, none, none, none, none]
theorem br_le {a x : Addr} {s : IS} {kd ng nt : Int} {sm : List Int} {p8 p9 p10 p11 p12 : Option E} : Le (brD a x s kd ng nt sm) [some (.rf a), some (.rf x), some (.d (houseD s.h)), some (.d (staysD (keptL s))), some (.d (.int kd)), some (.d (.int ng)), some (.d (.tuple (sm.map .int))), some (.d (.int nt)), p8, p9, p10, p11, p12] := ⟨rfl, fun i e q => by
  unfold brD at q
  rcases i with _ | _ | _ | _ | _ | _ | _ | _ | _ | _ | _ | _ | _ | i
  · exact q
  · exact q
  · exact q
  · exact q
  · exact q
  · exact q
  · exact q
  · exact q
  all_goals simp at q⟩
/-- at a turn's head -/
def BrP (K : PySem.W.Frag) (T : Tbl) (S : Addr → Prop) (H : Hp) (a x : Addr) (s : IS) (kd ng nt : Int) (sm : List Int) (i : Nat) (σ : L2.St) (H' : Hp) : Prop := Ad K T S H' σ (brD a x s kd ng nt sm) ∧ Gr T H H'
section
variable {P : Program} {w : World} {K : PySem.W.Frag} {mg : Str → Option Value} {base : Heap} {T : Tbl} {C CN f c : Addr}
/-- what is asked of each night -/
theorem br_tail {A : Around} {outer : List Env} {s0 : Shared} {H : Hp} {E : XK} {a x y : Addr} {s : IS} {kd ng nt fr : Int} {sm : List Int} {n0 : Nat} (B : Bn mg) (D : Dfn P w K mg base "left" 8 ["house", "stays", "night", "kind"] (sp_left K T)) (hr : Room 8 (A.deeper (PyProof.Rows.envOfC ("_law_begins_right" : Str) (defScope (top 83)) s0.heap.objs.size f (.ref c))))
    (iok : IOk s n0) (hst : StayOk (kd, fr, ng)) (hsm : ∀ y : Int, y ∈ sm ↔ (0 ≤ y ∧ y ≤ 20) ∧ fitsB s.h (keptL s ++ [(kd, y, ng)]) = true) :
    Evb T (cxOf CX0 P w K mg base brN ("_law_begins_right" : Str) (defScope (top 83)) f (.ref c) A outer s0 H E).nox ((forBd 3 (top 83)).drop 2) ((((brD a x s kd ng nt sm).set 8 (some (.d (.int fr)))).set 9 (some (.rf y))).set 10 (some (.d (doneD s (kd, fr, ng)))))
      (.nx ((((brD a x s kd ng nt sm).set 8 (some (.d (.int fr)))).set 9 (some (.rf y))).set 10 (some (.d (doneD s (kd, fr, ng)))))) := by
  obtain ⟨k1, k2, f1, f2, n1, n2⟩ := hst
  dsimp only at k1 k2 f1 f2 n1 n2
  have hsh := kept_shape s iok
  have hin : decide (fr ∈ sm) = fitsB s.h (keptL s ++ [(kd, fr, ng)]) := by
    cases e : fitsB s.h (keptL s ++ [(kd, fr, ng)]) with
    | true => exact decide_eq_true ((hsm fr).mpr ⟨⟨f1, f2⟩, e⟩)
    | false => exact decide_eq_false fun z => by rw [((hsm fr).mp z).2] at e; cases e
  refine evb_cons (evs_if (u := false) ?_ (fun z => by cases z) (fun _ => evb_nil)) (evb_one (evs_if (u := false) ?_ (fun z => by cases z) (fun _ => evb_nil)))
  · refine evt_is (evt_and (u := decide (((keptL s).length : Int) < 8)) (v := false) (evt_is (evt_lt (ev_lenT (ds := (keptL s).map stayD) B (ev_n 3)) ev_i) (by rw [List.length_map])) fun hu => evt_is (evt_neB (i := mayB s (kd, fr, ng)) (j := decide (fr ∈ sm)) (ev_is (ev_neD hr.units (ev_n 10) ev_s (done_shaped _ _) strNN_shaped) (by rw [done_eqv])) (ev_inT (n := fr) (ns := sm) (ev_n 8) (ev_n 6))) ?_) (Bool.and_false _)
    have hu := of_decide_eq_true hu
    rw [hin, may_fits (by omega)]
    simp
  · refine evt_is (evt_w (evw_and (u := decide (((keptL s).length : Int) < 8)) (v := decide (ng = 1) && false) (evt_is (evt_lt (ev_lenT (ds := (keptL s).map stayD) B (ev_n 3)) ev_i) (by rw [List.length_map])) fun hu => evw_and (u := decide (ng = 1)) (v := false) (evt_eq (ev_n 5) ev_i) fun hn => evw_and1 (evt_is (evt_neB (i := decide (0 < leftI s.h (keptL s) fr kd)) (j := decide (fr ∈ sm)) (ev_gt (ev_callI D hr (s.h, keptL s, fr, kd) (eva_cons (ev_n 2) (eva_cons (ev_n 3) (eva_cons (ev_n 8) (eva_cons (ev_n 4) eva_nil)))) ⟨iok.h, hsh, ⟨f1, by show fr ≤ 40; omega⟩, k1, k2⟩ rfl) ev_i) (ev_inT (n := fr) (ns := sm) (ev_n 8) (ev_n 6))) ?_))) (by simp)
    have hn := of_decide_eq_true hn
    rw [hin]
    have hl := left_iff (h := s.h) (st := keptL s) (k := kd) (n := fr) iok.kept ⟨k1, k2⟩ ⟨f1, f2⟩ iok.fit
    have hd : decide (0 < leftI s.h (keptL s) fr kd) = fitsB s.h (keptL s ++ [(kd, fr, 1)]) := by
      cases e : fitsB s.h (keptL s ++ [(kd, fr, 1)]) with
      | true => exact decide_eq_true (hl.mpr e)
      | false => exact decide_eq_false fun z => by rw [hl.mp z] at e; cases e
    rw [hn, hd]
    simp
end
section
variable {P : Program} {w : World} {K : PySem.W.Frag} {mg : Str → Option Value} {base : Heap} {T : Tbl} {C CN CI f g c Pt : Addr} {fd fdg : FuncData}
theorem ok_br (F : FunC K "_law_begins_right" "_law_begins_right" (top 83) f fd c) (B : Bn mg) (I : ITx K C) (Y : NTy K mg CN CI) (L : LmOk base mg T c Pt (("_law_begins_right" : Str) ++ (".<locals>." : Str) ++ ("<lambda>" : Str))) (Ft : Fun K "_law_tried" "_law_tried" (top 80) g fdg) (bt : Binds K fdg ["_law_call"] []) (mt : mg "_law_tried" = some (.ref g)) (D : BrC P w K mg base T C CN) :
    FnOk P w K mg base CX0 9 f fd ["_law_pen_here", "_law_inn", "_law_house_here"] (spBr K T C) := by
  obtain ⟨ft, fdt, Ftw, mtw, btw⟩ := D.twin.ex
  refine F.ok sc_br (fun vs H Q E h => ?_) fun A outer s0 H vs Q E hr h => ?_
  · obtain ⟨S, a, x, pl, u, s, m, n, rfl, _⟩ := h
    rfl
  obtain ⟨S, a, x, pl, u, s, m, n, rfl, sk, tb, inn, pn, np, iok, hm, hn, ru, q⟩ := h
  refine ⟨_, pss_cons (ps_asg (pe_tup (pa_cons (pe_best _) (pa_cons (pe_best _) (pa_cons (pe_best _) pa_nil)))) pg_best) (pss_cons (ps_par (i := 6) (j := 7) rfl sc_br.nd rfl rfl (by decide) rfl rfl (pa_cons (pe_best _) (pa_cons (pe_best _) pa_nil)) rfl)
    (pss_cons (ps_if (pt_best _) (pss_best _) pss_nil) (pss_cons (ps_for PassesOwn.never rfl (pi_range1 rfl B.range (pa_cons (pe_best _) pa_nil)) (pg_name (i := 8) sc_br.nd rfl (.inr rfl))
      (pss_cons (ps_set (i := 9) sc_br.nd rfl (.inr rfl) (pe_meth0 (pe_best _) I.cl mtw Ftw hr btw .nil pass0)) (pss_cons (ps_set (i := 10) sc_br.nd rfl (.inl rfl) (pe_triedm (k := 6) Ft bt mt B Y L rfl hr (lamS_by rfl) rfl (fun _ _ _ _ _ => rfl) D.book I.cl (fun _ _ _ _ _ _ _ => rfl) (fun _ _ _ _ _ _ _ => rfl) _ (fun _ _ _ _ _ _ _ => rfl)))
        (pss_best _)))) (pss_one (ps_ret (pe_best _)))))), ?_⟩
  have ad : Ad K T S H (L2.start brN [.ref a, .ref x, u]) [some (.rf a), some (.rf x), some (.d (houseD s.h)), none, none, none, none, none, none, none, none, none, none] := ⟨sk, tb, SD.start (es := [.rf a, .rf x, .d (houseD s.h)]) (.cons rfl (.cons rfl (.cons ru .nil)))⟩
  generalize L2.start brN [V.ref a, V.ref x, u] = σ at ad ⊢
  have hb := iok.bk
  have hh := iok.h
  have hsh := kept_shape s iok
  have h1000 : s.bk.length ≤ 1000 := by omega
  refine seq_tg (Ev.run (T := T) (r := .d (staysD (keptL s))) ?_ (inn.ad ad 1 rfl) fun v1 H1 g1 r1 => ?_)
  · exact ev_kept (i := 11) (j := 12) (x := x) [("_law_number", 11), ("_law_stay", 12)] rfl B I D.stays (hr.mono (by decide)) sc_br.nd rfl h1000 (ev_meth0I D.stays I.cl (hr.mono (by decide)) (x, s) (ev_n 1) (by decide) rfl h1000 rfl) fun n => ⟨_, fun s' H0 C' cl fp => ⟨evg_tup (evgs_cons (evg_n 11 sc_br.nd) (evgs_cons (evg_n 12 sc_br.nd) evgs_nil)), ev_n 12⟩⟩
  have r1 : Rp K S H1 v1 (staysD (keptL s)) := r1
  have ad1 := ad.grow g1
  refine Evz.run (T := T) (a := a) (k := 1) (R := IntIn 1 3) ?_ ad1 (pn.grow g1) (by omega) fun v2 H2 d2 g2 p2 r2 q2 => ?_
  · exact evz_mono (evz_add (i := 1) (lo := 0) (hi := 2) (k := 1) ev_i (evz_draw (lo := 3) (hi := 3) (k := 0) D.draw (hr.mono (by decide)) (ev_n 0) (evz_ev ev_i ⟨3, rfl, by decide, by decide⟩) (by decide))) fun d h => h
  obtain ⟨kd, rfl, k1, k2⟩ := r2
  obtain rfl := Rp.int_inv q2
  have ad2 := ad1.gm rfl (pn.grow g1).one g2
  refine Evz.run (T := T) (a := a) (k := 1) (R := IntIn 1 8) ?_ ad2 p2 (by omega) fun v3 H3 d3 g3 p3 r3 q3 => ?_
  · exact evz_mono (evz_add (i := 1) (lo := 0) (hi := 7) (k := 1) ev_i (evz_draw (lo := 8) (hi := 8) (k := 0) D.draw (hr.mono (by decide)) (ev_n 0) (evz_ev ev_i ⟨8, rfl, by decide, by decide⟩) (by decide))) fun d h => h
  obtain ⟨ng, rfl, n1, n2⟩ := r3
  obtain rfl := Rp.int_inv q3
  have ad3 := ad2.gm rfl p2.one g3
  have r1' : Rp K S H3 v1 (staysD (keptL s)) := Rp.gm g3 p2.one (p2.sok ad2) (Rp.gm g2 (pn.grow g1).one ((pn.grow g1).sok ad1) r1)
  refine ⟨small_of (by show 3 ≤ 1000000; decide), fun pt hpt => ?_⟩
  have gt : Gr T H3 (L2.upd H3 pt (.tup [v1, .int kd, .int ng])) := Gr.new hpt
  have rt : Rp K S (L2.upd H3 pt (.tup [v1, .int kd, .int ng])) (.ref pt) (.tuple [staysD (keptL s), .int kd, .int ng]) := Rp.tup (SqT.of upd_same) (.cons (r1'.grow gt) (.cons (Rp.int _) (.cons (Rp.int _) .nil)))
  refine (evg_tup (evgs_cons (evg_n 3 sc_br.nd) (evgs_cons (evg_n 4 sc_br.nd) (evgs_cons (evg_n 5 sc_br.nd) evgs_nil)))) S _ _ _ (ad3.grow gt) rt _ fun σ4 ad4 _ => ?_
  have gA : Gm (One a) T H (L2.upd H3 pt (.tup [v1, .int kd, .int ng])) := (Gm.of g1).trans (g2.trans (g3.trans (Gm.of gt)))
  have p4 := p3.grow gt
  generalize L2.upd H3 pt (.tup [v1, .int kd, .int ng]) = H4 at gA p4 ad4 ⊢
  -- begins, night
  refine seq_id (par_id (Ev.run (T := T) (r := .d (.tuple ((beginsL s.h (keptL s) kd ng).map .int))) (ev_callI D.begins hr (s.h, keptL s, kd, ng) (eva_cons (ev_n 2) (eva_cons (ev_n 3) (eva_cons (ev_n 4) (eva_cons (ev_n 5) eva_nil)))) ⟨hh, hsh, ⟨k1, k2⟩, n1, n2⟩ rfl) ad4 fun v5 H5 g5 r5 => ?_))
  have ad5 := ad4.grow g5
  have p5 := p4.grow g5
  refine Evz.run (T := T) (a := a) (k := 1) (R := IntIn 0 40) ?_ ad5 p5 (by omega) fun v6 H6 d6 g6 p6 r6 q6 => ⟨_, _, rfl, ?_⟩
  · exact evz_mono (evz_draw (lo := 41) (hi := 41) (k := 0) D.draw (hr.mono (by decide)) (ev_n 0) (evz_ev ev_i ⟨41, rfl, by decide, by decide⟩) (by decide)) fun d h => h
  obtain ⟨nt, rfl, t1, t2⟩ := r6
  obtain rfl := Rp.int_inv q6
  have r5 : Rp K S H5 v5 (.tuple ((beginsL s.h (keptL s) kd ng).map .int)) := r5
  have ad6 := ((ad5.gm rfl p5.one g6).set 6 (e := .d (.tuple ((beginsL s.h (keptL s) kd ng).map .int))) (Rp.gm g6 p5.one (p5.sok ad5) r5)).set 7 (v := .int nt) (e := .d (.int nt)) (Rp.int _)
  have gB : Gm (One a) T H H6 := gA.trans ((Gm.of g5).trans g6)
  have inn6 : InnAt K S H6 C x pl s m := inn.gm sk pn.one (fun e => pen_ne inn pn e.symm) np gB
  have ad7 : Ad K T S H6 ((σ4.set 6 (some v5)).set 7 (some (V.int nt))) (brD a x s kd ng nt (beginsL s.h (keptL s) kd ng)) := ad6
  clear ad6 ad5 ad4
  dsimp only
  generalize (σ4.set 6 (some v5)).set 7 (some (V.int nt)) = σ7 at ad7 ⊢
  have hsm : ∀ y : Int, y ∈ beginsL s.h (keptL s) kd ng ↔ (0 ≤ y ∧ y ≤ 20) ∧ fitsB s.h (keptL s ++ [(kd, y, ng)]) = true := fun y => begins_mem
  generalize beginsL s.h (keptL s) kd ng = sm at ad7 hsm ⊢
  -- left
  refine seq_if (Evt.run (T := T) (b := false) ?_ (inn6.ad ad7 1 rfl) fun H7 g7 => ?_)
  · refine evt_is (evt_ne (i := leftI s.h (keptL s) nt kd) (j := leftI s.h (keptL s) nt kd) ?_ ?_) (by simp)
    · exact ev_methI D.mleft I.cl (hr.mono (by decide)) (x, s, nt, kd) (ev_n 1) (eva_cons (ev_n 7) (eva_cons (ev_n 4) eva_nil)) (by decide) rfl ⟨h1000, hh.2.1, ⟨t1, t2⟩, k1, k2⟩ rfl
    · exact ev_callI D.left hr (s.h, keptL s, nt, kd) (eva_cons (ev_n 2) (eva_cons (ev_n 3) (eva_cons (ev_n 7) (eva_cons (ev_n 4) eva_nil)))) ⟨hh, hsh, ⟨t1, t2⟩, k1, k2⟩ rfl
  rw [if_neg (show ¬ (false = true) by decide)]
  refine seq_nil ?_
  have ad8 := ad7.grow g7
  have inn7 := inn6.grow g7
  -- the turns
  refine seq_id (Ev.run (T := T) (r := .d (.int 21)) ev_i ad8 fun v8 H8 g8 r8 => ?_)
  have ad9 := ad8.grow g8
  have inn8 := inn7.grow g8
  refine ⟨21, by rw [Rp.int_inv r8], by decide, by decide, for_range (BrP K T S H8 a x s kd ng nt sm) ⟨ad9, Gr.refl _⟩ (fun i σi Hi hi hp => ?_) (fun σi Hi hp => ?_)⟩
  case refine_2 =>
    obtain ⟨adE, gE⟩ := hp
    refine ret_id (Ev.run (T := T) (r := .d (.bool true)) ev_b adE fun vE HE gE2 rE => ?_)
    obtain rfl := Rp.bl_inv rE
    have gAll : Gm (One a) T H HE := gB.trans (Gm.of (((g7.trans g8).trans gE).trans gE2))
    refine q HE (inn.gm sk pn.one (fun e => pen_ne inn pn e.symm) np gAll) (Pn.le (by omega) (p6.grow (((g7.trans g8).trans gE).trans gE2))) gAll
  obtain ⟨adi, gi⟩ := hp
  have inni := inn8.grow gi
  have hi : i < 21 := hi
  have adj := adi.set 8 (v := .int (0 + (i : Int))) (e := .d (.int (0 + (i : Int)))) (Rp.int _)
  have hfi : 0 ≤ (0 + (i : Int)) ∧ (0 + (i : Int)) ≤ 20 := by omega
  generalize hfr : (0 + (i : Int)) = fr at adj hfi ⊢
  have hst : StayOk (kd, fr, ng) := ⟨k1, k2, hfi.1, hfi.2, n1, n2⟩
  -- twin
  obtain ⟨dx, u1, u2, u3, u4, hx⟩ := inni.fs
  refine seq_set (Ev.run (T := T) (r := .rf x) (ev_n 1) adj fun o Ha ga ra => ?_)
  obtain rfl : o = .ref x := ra
  have ada := adj.grow ga
  have inna := inni.grow ga
  refine ⟨x, dx, _, rfl, ga.1 _ _ hx (fun ps z => by cases z), fsOf_no (by decide), S, x, pl, s, m, rfl, ada.sok, ada.tab, inna, hh, fun y pl' S' Hb hS hN ny npl gb skb innb => ?_⟩
  have adb := (ada.newS (M := fun _ => False) rfl (fun b hb => hb.elim) (Gm.of gb) hS hN skb).set 9 (v := .ref y) (e := .rf y) rfl
  have gib : Gr T Hi Hb := ga.trans gb
  have cont : ∀ (v : V) (Hc : Hp), Gr T Ha Hc → (∀ S2 : Addr → Prop, Rp K S2 Hc v (doneD s (kd, fr, ng))) → Ad K T S Hc (((σi.set 8 (some (V.int fr))).set 9 (some (V.ref y))).set 10 (some v)) ((((brD a x s kd ng nt sm).set 8 (some (.d (.int fr)))).set 9 (some (.rf y))).set 10 (some (.d (doneD s (kd, fr, ng))))) := fun v Hc gc rv =>
    ((ada.grow gc).set 9 (v := .ref y) (e := .rf y) rfl).set 10 (v := v) (e := .d (doneD s (kd, fr, ng))) (rv S)
  refine seq_set (tried_id adb.tab fun Hd gd => ?_)
  have add := adb.grow gd
  have innd := innb.grow gd
  obtain ⟨dy, y1, y2, y3, y4, hy⟩ := innd.fs
  refine lmeth_run (fun A' o' s' H0' E' f' c'' => ev_n 9) add hy (fsOf_no (by decide)) fun He ge => fun A' o' s' H0' E' f' c'' hr' => ?_
  have ade := add.grow ge
  have inne := innd.grow ge
  refine tA_one (Ev.run (T := T) (r := .d (stayD (kd, fr, ng))) (ev_tup (evd_cons (ev_n 4) (evd_cons (ev_n 8) (evd_cons (ev_n 5) evd_nil)))) ade fun vf Hf gf rf => ?_)
  have gbf : Gr T Hb Hf := (gd.trans ge).trans gf
  have gaf : Gr T Ha Hf := gb.trans gbf
  have adf := ade.grow gf
  have nyA : ∀ b, Two y pl' b → Nw Ha b := fun b e => e.elim (fun z => by rw [z]; exact ny) fun z => by rw [z]; exact npl
  have stp : ∀ (v : V) (Hg : Hp), Gr T Ha Hg → (∀ S2 : Addr → Prop, Rp K S2 Hg v (doneD s (kd, fr, ng))) → _ := fun v Hg gc rv => (br_tail (A := A) (outer := outer) (s0 := s0) (H := H) (E := E) (f := f) (c := c) (a := a) (x := x) (y := y) (nt := nt) B D.left hr iok hst hsm) S _ Hg (cont v Hg gc rv)
  refine ⟨S', y, pl', s, m, vf, (kd, fr, ng), rfl, adf.sok, adf.tab, inne.grow gf, by omega, rf, hst, iok, fun hmay Hg gg ig => ?_, fun hno Hg gg => ⟨rfl, rfl, ?_⟩⟩
  · have gc : Gr T Ha Hg := gaf.gmN gg nyA
    refine stp _ Hg gc (fun S2 => by unfold doneD; rw [if_pos hmay]; exact Rp.int _) _ fun σ' H' g' a' => ⟨a'.le br_le, (gi.trans ga).trans (gc.trans g')⟩
  · have gc : Gr T Ha Hg := gaf.trans gg
    refine stp _ Hg gc (fun S2 => by unfold doneD; rw [if_neg (by rw [hno]; decide)]; exact Rp.str _) _ fun σ' H' g' a' => ⟨a'.le br_le, (gi.trans ga).trans (gc.trans g')⟩
end
end N

namespace N
open PySem L2 LamX
abbrev lwN : List Str := ["_law_script", "_law_k", "_law_pen_here", "_law_house_here", "_law_inn", "_law_turn"]
theorem sc_lw : FnScope lwN ["_law_script"] (defScope (top 84)) := ⟨rfl, rfl, rfl, by decide +kernel, rfl, by decide +kernel, by decide +kernel⟩
def spLaw (K : PySem.W.Frag) (T : Tbl) : Sp := fun vs H Q _ => ∃ (a : Addr) (ns : List Int), vs = [.ref a] ∧ Tabs T H ∧ SqL K H a (ns.map V.int) ∧ ns.length ≤ 63 ∧ ∀ H', Q (.bl true) H'
/-- what the law calls -/
structure LwC (P : Program) (w : World) (K : PySem.W.Frag) (mg : Str → Option Value) (base : Heap) (T : Tbl) (C : Addr) : Prop where
  cell : Dfn P w K mg base "_law_cell_at" 1 ["_law_script", "_law_k"] (sp_cell K T)
  pen : Dfn P w K mg base "_law_pen" 1 ["_law_cell"] (spPen T)
  house : Dfn P w K mg base "_law_house" 2 ["_law_pen_here"] (spHouse K T)
  led : Dfn P w K mg base "_law_led" 11 ["_law_pen_here", "_law_inn", "_law_house_here"] (spLed K T C)
  pr : Dfn P w K mg base "_law_plan_right" 10 ["_law_inn", "_law_house_here"] (sp_pr K T C)
  br : Dfn P w K mg base "_law_begins_right" 9 ["_law_pen_here", "_law_inn", "_law_house_here"] (spBr K T C)
abbrev Nil : Addr → Prop := fun _ => False
def lwD (ns : List Int) : Sl := [some (.d (.list (ns.map .int))), none, none, none, none, none]
theorem lw_le {ns : List Int} {p1 p2 p3 p4 p5 : Option E} : Le (lwD ns) [some (.d (.list (ns.map .int))), p1, p2, p3, p4, p5] := ⟨rfl, fun i e q => by
  unfold lwD at q
  rcases i with _ | _ | _ | _ | _ | _ | i
  · exact q
  all_goals simp at q⟩
def lwI (ns : List Int) (k : Int) (a x : Addr) (h : List Int) : Sl := [some (.d (.list (ns.map .int))), some (.d (.int k)), some (.rf a), some (.d (houseD h)), some (.rf x), none]
theorem lwI_le {ns : List Int} {k : Int} {a x : Addr} {h : List Int} {p : Option E} : Le (lwI ns k a x h) [some (.d (.list (ns.map .int))), some (.d (.int k)), some (.rf a), some (.d (houseD h)), some (.rf x), p] := ⟨rfl, fun i e q => by
  unfold lwI at q
  rcases i with _ | _ | _ | _ | _ | _ | i
  · exact q
  · exact q
  · exact q
  · exact q
  · exact q
  all_goals simp at q⟩
def OutP (K : PySem.W.Frag) (T : Tbl) (ns : List Int) (i : Nat) (σ : L2.St) (H' : Hp) : Prop := Ad K T Nil H' σ (lwD ns)
def InP (K : PySem.W.Frag) (T : Tbl) (S : Addr → Prop) (C : Addr) (ns : List Int) (k : Int) (a x pl : Addr) (h : List Int) (i : Nat) (σ : L2.St) (H' : Hp) : Prop := ∃ s : IS, s.h = h ∧ Ad K T S H' σ (lwI ns k a x h) ∧ InnAt K S H' C x pl s (11 * i) ∧ Pn S H' a (6 + 203 * i) ∧ IOk s (11 * i)
section
variable {P : Program} {w : World} {K : PySem.W.Frag} {mg : Str → Option Value} {base : Heap} {T : Tbl} {C f fI : Addr} {fd fdI : FuncData}
theorem ok_lw (F : Fun K "law" "law" (top 84) f fd) (B : Bn mg) (I : ITx K C) (M : Mk K C fI) (FI : FnOk P w K mg base CX0 6 fI fdI ["self", "house"] (spInit K T C)) (bI : Binds K fdI ["self", "house"] []) (gC : mg "Inn" = some (.ref C)) (D : LwC P w K mg base T C) :
    FnOk P w K mg base CX0 12 f fd ["_law_script"] (spLaw K T) := by
  obtain ⟨fp, fdp, Fp, mp, kp, bp⟩ := D.pen.ex
  obtain ⟨fh, fdh, Fh, mh, kh, bh⟩ := D.house.ex
  obtain ⟨fl, fdl, Fl, ml, kl, bl⟩ := D.led.ex
  obtain ⟨fb, fdb, Fb, mb, kb, bb⟩ := D.br.ex
  refine F.ok sc_lw (fun vs H Q E h => ?_) fun cdv A outer s0 H vs Q E hr h => ?_
  · obtain ⟨a, ns, rfl, _⟩ := h
    rfl
  obtain ⟨sc, ns, rfl, tb, hs, hn, q⟩ := h
  refine ⟨_, pss_cons (ps_for PassesOwn.never rfl (pi_range1 rfl B.range (pa_cons (pe_best _) pa_nil)) (pg_name (i := 1) sc_lw.nd rfl (.inl rfl))
    (pss_cons (ps_set (i := 2) sc_lw.nd rfl (.inl rfl) (pe_call Fp (hr.mono (by decide)) rfl mp kp bp .nil pass0 (pa_cons (pe_best _) pa_nil)))
      (pss_cons (ps_set (i := 3) sc_lw.nd rfl (.inl rfl) (pe_call Fh (hr.mono (by decide)) rfl mh kh bh .nil pass0 (pa_cons (pe_best _) pa_nil)))
        (pss_cons (ps_set (i := 4) sc_lw.nd rfl (.inl rfl) (pe_make M FI (hr.mono (by decide)) rfl gC bI .nil pass0 (pa_cons (pe_best _) pa_nil)))
          (pss_one (ps_for PassesOwn.never rfl (pi_range1 rfl B.range (pa_cons (pe_best _) pa_nil)) (pg_name (i := 5) sc_lw.nd rfl (.inl rfl))
            (pss_cons (ps_expr (pe_call Fl hr rfl ml kl bl .nil pass0 (pa_cons (pe_best _) (pa_cons (pe_best _) (pa_cons (pe_best _) pa_nil)))))
              (pss_one (ps_if (PW.pt (pw_or (pt_not (pt_best _)) (pw_or1 (pt_not (pt_val (pe_call Fb (hr.mono (by decide)) rfl mb kb bb .nil pass0 (pa_cons (pe_best _) (pa_cons (pe_best _) (pa_cons (pe_best _) pa_nil))))))))) (pss_best _) pss_nil)))))))))
    (pss_one (ps_ret (pe_best _))), ?_⟩
  have ad : Ad K T Nil H (L2.start lwN [.ref sc]) (lwD ns) := ⟨fun b hb => hb.elim, tb, SD.start (es := [.d (.list (ns.map .int))]) (.cons (Rp.lst (hs.elim (fun h => .inl ⟨id, h⟩) .inr) (RpA.of_ints ns)) .nil)⟩
  generalize L2.start lwN [V.ref sc] = σ at ad ⊢
  refine seq_id (Ev.run (T := T) (r := .d (.int (if (if (3 : Int) < ((ns.map PyData.int).length : Int) then 3 else ((ns.map PyData.int).length : Int)) > 1 then (if (3 : Int) < ((ns.map PyData.int).length : Int) then 3 else ((ns.map PyData.int).length : Int)) else 1))) (ev_max2 B ev_i (ev_min2 B (ev_lenL B (ev_n 0)) ev_i)) ad fun v1 H1 g1 r1 => ?_)
  have ad1 := ad.grow g1
  generalize hj : (if (if (3 : Int) < ((ns.map PyData.int).length : Int) then 3 else ((ns.map PyData.int).length : Int)) > 1 then (if (3 : Int) < ((ns.map PyData.int).length : Int) then 3 else ((ns.map PyData.int).length : Int)) else 1) = j at r1
  have hj3 : 0 ≤ j ∧ j ≤ 3 := by
    rw [← hj]
    split <;> (try split) <;> omega
  refine ⟨j, by rw [Rp.int_inv r1], by omega, by omega, for_range (OutP K T ns) ad1 (fun i σi Hi hi hp => ?_) (fun σi Hi hp => ?_)⟩
  case refine_2 =>
    have hp : Ad K T Nil Hi σi (lwD ns) := hp
    refine ret_id (Ev.run (T := T) (r := .d (.bool true)) ev_b hp fun vE HE gE rE => ?_)
    obtain rfl := Rp.bl_inv rE
    exact q HE
  have adi : Ad K T Nil Hi σi (lwD ns) := hp
  have ad2 := adi.set 1 (v := .int (0 + (i : Int))) (e := .d (.int (0 + (i : Int)))) (Rp.int _)
  have hk0 : 0 ≤ 0 + (i : Int) := by omega
  generalize 0 + (i : Int) = k at ad2 hk0 ⊢
  -- the pen
  refine seq_set (Ev.run (T := T) (r := .d (.int (cellI ns k))) (ev_callI D.cell (hr.mono (by decide)) (ns, k) (eva_cons (ev_n 0) (eva_cons (ev_n 1) eva_nil)) ⟨by show ns.length ≤ 1000; omega, hk0⟩ rfl) ad2 fun v3 H3 g3 r3 => ?_)
  obtain rfl := Rp.int_inv r3
  have ad3 := ad2.grow g3
  refine ⟨cellI ns k, rfl, ad3.tab, fun a H4 nwa g4 pa => ?_⟩
  obtain ⟨p0, p1, ha, b1, b2⟩ := pa
  have skA : Sok (One a) H4 := fun b hb => by rw [hb]; exact ⟨_, ha, trivial⟩
  have ad4 := (ad3.newS (S' := One a) (M := fun _ => False) rfl (fun b hb => hb.elim) (Gm.of g4) (fun b hb => hb.elim) (fun b hb => .inr (by rw [hb]; exact nwa)) skA).set 2 (v := .ref a) (e := .rf a) rfl
  have pn4 : Pn (One a) H4 a 0 := ⟨rfl, p0, p1, 0, ha, ⟨b1, b2⟩, by decide, by decide⟩
  -- the house
  refine seq_set (Ev.run (T := T) (r := .rf a) (ev_n 2) ad4 fun o H5 g5 r5 => ?_)
  obtain rfl : o = .ref a := r5
  have ad5 := ad4.grow g5
  have pn5 := pn4.grow g5
  refine ⟨One a, a, 0, rfl, ad5.sok, ad5.tab, pn5, by decide, fun vh H6 h hh g6 p6 rh => ?_⟩
  have ad6 := (ad5.gm rfl pn5.one g6).set 3 (e := .d (houseD h)) rh
  -- the inn
  refine seq_set (Ev.run (T := T) (r := .d (houseD h)) (ev_n 3) ad6 fun u H7 g7 r7 => fun y dx hy hdx hne => ?_)
  have r7 : Rp K (One a) H7 u (houseD h) := r7
  have ad7 := ad6.grow g7
  have p7 := p6.grow g7
  have gz1 : Gr T H7 (L2.upd H7 dx (.own y)) := Gr.new hdx
  have hy' : (L2.upd H7 dx (.own y)) y = none := by rw [upd_ne (Ne.symm hne)]; exact hy
  have gz2 : Gr T (L2.upd H7 dx (.own y)) (L2.upd (L2.upd H7 dx (.own y)) y (.ins C dx [])) := Gr.new hy'
  have gz : Gr T H7 (L2.upd (L2.upd H7 dx (.own y)) y (.ins C dx [])) := gz1.trans gz2
  have ru : Rp K (With (One a) y) (L2.upd (L2.upd H7 dx (.own y)) y (.ins C dx [])) u (houseD h) := (r7.more fun b hb => hb.imp id fun e => by rw [e]; exact hy).grow gz
  refine ⟨With (One a) y, y, dx, u, h, rfl, fun b hb => ?_, gz.2 ad7.tab, .inr rfl, upd_same, ru, hh, fun pl H8 npl g8 sk8 inn8 => ⟨rfl, ?_⟩⟩
  · rcases hb with hb | hb
    · exact (ad7.sok.mono gz) b hb
    · rw [hb]
      exact ⟨_, upd_same, trivial⟩
  have pz := p7.grow gz
  have hay : a ≠ y := fun e => by
    obtain ⟨_, x0, x1, x2, e1, _⟩ := p7
    rw [e, hy] at e1
    cases e1
  have hpa : pl ≠ a := fun e => by
    obtain ⟨_, x0, x1, x2, e1, _⟩ := pz
    rw [e] at npl
    obtain ⟨ps, z⟩ := npl _ e1
    cases z
  have nwy : Nw H7 y := Nw.of hy
  have nwp : Nw H7 pl := Nw.gr gz npl
  have gr8 : Gr T H7 H8 := gz.gmN g8 fun b e => by rw [e]; exact nwy
  have hS : ∀ b, One a b → With (With (One a) y) pl b := fun b h => .inl (.inl h)
  have hN : ∀ b, With (With (One a) y) pl b → One a b ∨ Nw H7 b := fun b hb => by
    rcases hb with (hb | hb) | hb
    · exact .inl hb
    · right
      rw [hb]
      exact nwy
    · right
      rw [hb]
      exact nwp
  have ad8 := (ad7.newS (M := fun _ => False) rfl (fun b hb => hb.elim) (Gm.of gr8) hS hN sk8).set 4 (v := .ref y) (e := .rf y) rfl
  have p8 : Pn (With (With (One a) y) pl) H8 a 6 := ((p7.grow gr8).more hS).le (by decide)
  generalize With (With (One a) y) pl = S at *
  have ad8' : Ad K T S H8 ((((σi.set 1 (some (V.int k))).set 2 (some (V.ref a))).set 3 (some vh)).set 4 (some (V.ref y))) (lwI ns k a y h) := ad8
  clear ad8
  dsimp only
  generalize (((σi.set 1 (some (V.int k))).set 2 (some (V.ref a))).set 3 (some vh)).set 4 (some (V.ref y)) = σ8 at ad8' ⊢
  -- two rounds
  refine Ev.run (T := T) (r := .d (.int 2)) ev_i ad8' fun v9 H9 g9 r9 => ?_
  refine ⟨2, by rw [Rp.int_inv r9], by decide, by decide, for_range (InP K T S C ns k a y pl h) ⟨⟨h, [], [], []⟩, rfl, ad8'.grow g9, inn8.grow g9, p8.grow g9, IOk.new hh⟩ (fun t σt Ht ht hp => ?_) (fun σt Ht hp => ?_)⟩
  case refine_2 =>
    obtain ⟨s, _, adE, _⟩ := hp
    exact (adE.less (S' := Nil) fun b h => h.elim).le lw_le
  obtain ⟨s, eh, adt, innt, pnt, iokt⟩ := hp
  have ht : t < 2 := ht
  have adu := adt.set 5 (v := .int (0 + (t : Int))) (e := .d (.int (0 + (t : Int)))) (Rp.int _)
  -- the deeds
  refine seq_drop (Ev.run (T := T) (r := .rf a) (ev_n 2) adu fun o Ha ga ra => ?_)
  obtain rfl : o = .ref a := ra
  refine Ev.run (T := T) (r := .rf y) (ev_n 4) (adu.grow ga) fun o Hb gb rb => ?_
  obtain rfl : o = .ref y := rb
  refine Ev.run (T := T) (r := .d (houseD h)) (ev_n 3) ((adu.grow ga).grow gb) fun u2 Hc gc rc => ?_
  have gac := (ga.trans gb).trans gc
  have adc := adu.grow gac
  refine ⟨S, a, y, pl, u2, s, 11 * t, 11 * t, 6 + 203 * t, rfl, adc.sok, adc.tab, ⟨innt.grow gac, pnt.grow gac, iokt, Gm.refl⟩, hpa, by omega, by omega, by omega, by rw [eh]; exact rc, fun s' Hd eh' ledd => ?_⟩
  have eh2 : s'.h = h := eh'.trans eh
  have add := adc.gm rfl (trio_le (innt.grow gac) (pnt.grow gac)) ledd.gm
  have iok9 : IOk s' 900 := ledd.ok.le (by omega)
  -- what is asked
  refine if_id ?_
  refine (Evt.run (T := T) (b := true) (evt_v (ev_callI D.pr (hr.mono (by decide)) (y, s') (eva_cons (ev_n 4) (eva_cons (r := .d (houseD s'.h)) (by rw [eh2]; exact ev_n 3) eva_nil)) iok9 rfl)) (ledd.inn.ad add 4 rfl) fun He ge => ?_)
  have ade := add.grow ge
  refine Ev.run (T := T) (r := .rf a) (ev_n 2) ade fun o Hf gf rf => ?_
  obtain rfl : o = .ref a := rf
  refine Ev.run (T := T) (r := .rf y) (ev_n 4) (ade.grow gf) fun o Hg gg rg => ?_
  obtain rfl : o = .ref y := rg
  refine Ev.run (T := T) (r := .d (houseD h)) (ev_n 3) ((ade.grow gf).grow gg) fun u3 Hh gh rh3 => ?_
  have geh := ((ge.trans gf).trans gg).trans gh
  have adh := add.grow geh
  refine ⟨S, a, y, pl, u3, s', 11 * t + 11, 6 + 203 * t + 200, rfl, adh.sok, adh.tab, ledd.inn.grow geh, ledd.pen.grow geh, hpa, iok9, by omega, by omega, by rw [eh2]; exact rh3, fun Hk innk pnk gk => ⟨true, rfl, ?_⟩⟩
  refine Eq.mpr (if_neg (show ¬ ((!true) = true) by decide)) ?_
  refine nil_id ?_
  have adk := adh.gm rfl (ledd.pen.grow geh).one gk
  exact ⟨s', eh2, adk.le lwI_le, innk.le (by omega), pnk.le (by omega), ledd.ok.le (by omega)⟩
end
end N

namespace N
open PySem L2 LamX
/-- the name g of the module holds the def x of the text st -/
structure At (K : PySem.W.Frag) (mg : Str → Option Value) (g x : Str) (st : Stmt) : Prop where
  ex : ∃ (f : Addr) (fd : FuncData), Fun K x x st f fd ∧ mg g = some (.ref f)
/-- the same, its code object at c -/
structure AtC (K : PySem.W.Frag) (mg : Str → Option Value) (x : Str) (st : Stmt) (c : Addr) : Prop where
  ex : ∃ (f : Addr) (fd : FuncData), FunC K x x st f fd c ∧ mg x = some (.ref f)
/-- the method m of the class at C -/
structure AtM (K : PySem.W.Frag) (C : Addr) (m q : Str) (st : Stmt) : Prop where
  ex : ∃ (f : Addr) (fd : FuncData), Fun K m q st f fd ∧ Meth K C m f
section
variable {K : PySem.W.Frag} {h : Heap} {mg : Str → Option Value} {g x m q : Str} {st : Stmt} {f C c : Addr} {oc kV dc pm cd ct : Value} {od an : Option Addr} {sl : Array (Option Value)}
theorem at_mk (X : K.In h) (G : h.Ns mainGlobals mg) (a : PySem.W.nsIn K mainGlobals g = some (some (.ref f))) (l : K.lookup f = some ⟨oc, od, .func (PySem.W.fnOf x x (defArgs st) (defBody st) (defScope st) .none kV dc pm an cd ct), sl⟩) (c : PySem.W.codeIn K cd x = true) (k : PySem.W.keepIn K (.ref f) = true) : At K mg g x st :=
  ⟨f, _, fun_mk l c k, PySem.W.mg_of X G a⟩
theorem atC_mk (X : K.In h) (G : h.Ns mainGlobals mg) (a : PySem.W.nsIn K mainGlobals x = some (some (.ref f))) (l : K.lookup f = some ⟨oc, od, .func (PySem.W.fnOf x x (defArgs st) (defBody st) (defScope st) .none kV dc pm an (.ref c) ct), sl⟩) (cc : PySem.W.codeIn K (.ref c) x = true) (k : PySem.W.keepIn K (.ref f) = true) : AtC K mg x st c :=
  ⟨f, _, ⟨⟨oc, od, kV, dc, pm, an, ct, sl, rfl, l, cc⟩, k⟩, PySem.W.mg_of X G a⟩
theorem atM_mk (a : PySem.W.findIn K (.ref C) m = some (some (.ref f))) (i : PySem.W.isFn K (.ref f) = true) (l : K.lookup f = some ⟨oc, od, .func (PySem.W.fnOf m q (defArgs st) (defBody st) (defScope st) .none kV dc pm an cd ct), sl⟩) (c : PySem.W.codeIn K cd q = true) (k : PySem.W.keepIn K (.ref f) = true) : AtM K C m q st :=
  ⟨f, _, fun_mk l c k, a, i, k⟩
end
theorem gi_mk {K : PySem.W.Frag} {h : Heap} {mg : Str → Option Value} {x : Str} {i : Int} {t : Tok} (X : K.In h) (G : h.Ns mainGlobals mg) (a : PySem.W.nsIn K mainGlobals x = some (some (.int i t))) : ∃ t, mg x = some (.int i t) := ⟨t, PySem.W.mg_of X G a⟩
theorem gs_mk {K : PySem.W.Frag} {h : Heap} {mg : Str → Option Value} {x i : Str} {t : Tok} (X : K.In h) (G : h.Ns mainGlobals mg) (a : PySem.W.nsIn K mainGlobals x = some (some (.str i t))) : ∃ t, mg x = some (.str i t) := ⟨t, PySem.W.mg_of X G a⟩
/-! ### the defs of the module, joined -/
structure Defs (K : PySem.W.Frag) (mg : Str → Option Value) (C c1 c2 c3 c4 : Addr) : Prop where
  a_is_whole : At K mg "is_whole" "is_whole" (top 19)
  a_is_among : At K mg "is_among" "is_among" (top 20)
  a_is_row : At K mg "is_row" "is_row" (top 21)
  a_is_kind : At K mg "is_kind" "is_kind" (top 22)
  a_is_house : At K mg "is_house" "is_house" (top 23)
  a_is_stay : At K mg "is_stay" "is_stay" (top 24)
  a_are_stays : At K mg "are_stays" "are_stays" (top 25)
  a_need_house : At K mg "need_house" "need_house" (top 26)
  a_need_stay : At K mg "need_stay" "need_stay" (top 27)
  a_need_stays : At K mg "need_stays" "need_stays" (top 28)
  a_need_night : At K mg "need_night" "need_night" (top 29)
  a_need_kind : At K mg "need_kind" "need_kind" (top 30)
  a_need_nights : At K mg "need_nights" "need_nights" (top 31)
  a_sleeps : At K mg "sleeps" "sleeps" (top 32)
  a_may_sleep : At K mg "may_sleep" "may_sleep" (top 33)
  a_from_kind : At K mg "from_kind" "from_kind" (top 37)
  a_spare_by : At K mg "spare_by" "spare_by" (top 38)
  a_over_by : At K mg "over_by" "over_by" (top 39)
  a_nights_of : At K mg "nights_of" "nights_of" (top 40)
  a_fits_by : At K mg "fits_by" "fits_by" (top 41)
  a_need_both_fits : At K mg "need_both_fits" "need_both" (top 42)
  a_fits : At K mg "fits" "fits" (top 44)
  a_left_by : At K mg "left_by" "left_by" (top 45)
  a_left : At K mg "left" "left" (top 46)
  a_begins : At K mg "begins" "begins" (top 47)
  a_rooms_of : At K mg "rooms_of" "rooms_of" (top 51)
  a_in_order : AtC K mg "in_order" (top 52) c1
  a_taken : At K mg "taken" "taken" (top 53)
  a_many_otherwise : At K mg "many_otherwise" "many_otherwise" (top 54)
  a_narrowed : At K mg "narrowed" "narrowed" (top 55)
  a_least_by : At K mg "least_by" "least_by" (top 56)
  a_chosen_by : At K mg "chosen_by" "chosen_by" (top 57)
  a_plan_with : At K mg "plan_with" "plan_with" (top 58)
  a_plan_by : At K mg "plan_by" "plan_by" (top 59)
  a_lots_of : AtC K mg "lots_of" (top 60) c2
  a_have_plan : At K mg "have_plan" "have_plan" (top 61)
  a_need_both_plans : At K mg "need_both_plans" "need_both" (top 62)
  a_plan : At K mg "plan" "plan" (top 64)
  a_do_meet : At K mg "do_meet" "do_meet" (top 65)
  a_is_plan_by : At K mg "is_plan_by" "is_plan_by" (top 66)
  a_shows_plan : At K mg "shows_plan" "shows_plan" (top 68)
  a_are_rooms : At K mg "are_rooms" "are_rooms" (top 69)
  a_nearest : At K mg "nearest" "nearest" (top 70)
  a__law_cell_at : At K mg "_law_cell_at" "_law_cell_at" (top 75)
  a__law_pen : At K mg "_law_pen" "_law_pen" (top 76)
  a__law_draw : At K mg "_law_draw" "_law_draw" (top 77)
  a__law_house : At K mg "_law_house" "_law_house" (top 78)
  a__law_guest : At K mg "_law_guest" "_law_guest" (top 79)
  a__law_led : AtC K mg "_law_led" (top 81) c3
  a__law_plan_right : At K mg "_law_plan_right" "_law_plan_right" (top 82)
  a__law_begins_right : AtC K mg "_law_begins_right" (top 83) c4
  a__law_tried : At K mg "_law_tried" "_law_tried" (top 80)
  a_law : At K mg "law" "law" (top 84)
  m___init__ : AtM K C "__init__" "Inn.__init__" (sM 0)
  m_keep : AtM K C "keep" "Inn.keep" (sM 1)
  m_numbers : AtM K C "numbers" "Inn.numbers" (sM 2)
  m_kept : AtM K C "kept" "Inn.kept" (sM 3)
  m_need_kept : AtM K C "need_kept" "Inn.need_kept" (sM 5)
  m_with_room : AtM K C "with_room" "Inn.with_room" (sM 6)
  m_book : AtM K C "book" "Inn.book" (sM 4)
  m_cancel : AtM K C "cancel" "Inn.cancel" (sM 7)
  m_put : AtM K C "put" "Inn.put" (sM 8)
  m_stays : AtM K C "stays" "Inn.stays" (sM 10)
  m_rooms : AtM K C "rooms" "Inn.rooms" (sM 11)
  m_plan : AtM K C "plan" "Inn.plan" (sM 12)
  m_left : AtM K C "left" "Inn.left" (sM 13)
  m_twin : AtM K C "twin" "Inn.twin" (sM 14)
  I : ITx K C
  gC : mg "Inn" = some (.ref C)
  mkI : PySem.W.makesIn K C = true
  kcI : PySem.W.keepIn K (.ref C) = true
  B : Bn mg
  Cc : Cn mg
theorem law_ok {P : Program} {w : World} {K : PySem.W.Frag} {mg : Str → Option Value} {base : Heap} {T : Tbl} {C CN CI c1 c2 c3 c4 P1 P2 P3 P4 fl : Addr} (E : Defs K mg C c1 c2 c3 c4) (NT : NTx K mg CN) (Y : NTy K mg CN CI)
    (L1 : LmOk base mg T c1 P1 (("in_order" : Str) ++ (".<locals>." : Str) ++ ("<lambda>" : Str))) (L2 : LmOk base mg T c2 P2 (("lots_of" : Str) ++ (".<locals>." : Str) ++ ("<lambda>" : Str)))
    (L3 : LmOk base mg T c3 P3 (("_law_led" : Str) ++ (".<locals>." : Str) ++ ("<lambda>" : Str))) (L4 : LmOk base mg T c4 P4 (("_law_begins_right" : Str) ++ (".<locals>." : Str) ++ ("<lambda>" : Str)))
    {fdl : FuncData} (Fl : Fun K "law" "law" (top 84) fl fdl) : FnOk P w K mg base CX0 12 fl fdl ["_law_script"] (spLaw K T) := by
  have B := E.B
  have Cc := E.Cc
  have I := E.I
  have gC := E.gC
  obtain ⟨f_is_whole, fd_is_whole, F, mh⟩ := E.a_is_whole.ex
  have D_is_whole := dfn_mk (P := P) (w := w) (base := base) F mh (F.binds (ps := ["thing"]) fun _ _ _ _ _ _ us hl => match us, hl with | [_], _ => rfl) (ok_is_whole (T := T) F B)
  clear F mh
  obtain ⟨f_is_among, fd_is_among, F, mh⟩ := E.a_is_among.ex
  have D_is_among := dfn_mk (P := P) (w := w) (base := base) F mh (F.binds (ps := ["thing", "low", "high"]) fun _ _ _ _ _ _ us hl => match us, hl with | [_, _, _], _ => rfl) (ok_is_among F D_is_whole)
  clear F mh
  obtain ⟨f_is_row, fd_is_row, F, mh⟩ := E.a_is_row.ex
  have D_is_row := dfn_mk (P := P) (w := w) (base := base) F mh (F.binds (ps := ["thing", "low", "high"]) fun _ _ _ _ _ _ us hl => match us, hl with | [_, _, _], _ => rfl) (ok_is_row (T := T) F B)
  clear F mh
  obtain ⟨f_is_kind, fd_is_kind, F, mh⟩ := E.a_is_kind.ex
  have D_is_kind := dfn_mk (P := P) (w := w) (base := base) F mh (F.binds (ps := ["thing"]) fun _ _ _ _ _ _ us hl => match us, hl with | [_], _ => rfl) (ok_is_kind F Cc D_is_among)
  clear F mh
  obtain ⟨f_is_house, fd_is_house, F, mh⟩ := E.a_is_house.ex
  have D_is_house := dfn_mk (P := P) (w := w) (base := base) F mh (F.binds (ps := ["thing"]) fun _ _ _ _ _ _ us hl => match us, hl with | [_], _ => rfl) (ok_is_house F Cc B D_is_row D_is_kind)
  clear F mh
  obtain ⟨f_is_stay, fd_is_stay, F, mh⟩ := E.a_is_stay.ex
  have D_is_stay := dfn_mk (P := P) (w := w) (base := base) F mh (F.binds (ps := ["thing"]) fun _ _ _ _ _ _ us hl => match us, hl with | [_], _ => rfl) (ok_is_stay F Cc D_is_row D_is_kind D_is_among)
  clear F mh
  obtain ⟨f_are_stays, fd_are_stays, F, mh⟩ := E.a_are_stays.ex
  have D_are_stays := dfn_mk (P := P) (w := w) (base := base) F mh (F.binds (ps := ["thing"]) fun _ _ _ _ _ _ us hl => match us, hl with | [_], _ => rfl) (ok_are_stays F Cc B D_is_row D_is_stay)
  clear F mh
  obtain ⟨f_need_house, fd_need_house, F, mh⟩ := E.a_need_house.ex
  have D_need_house := dfn_mk (P := P) (w := w) (base := base) F mh (F.binds (ps := ["thing"]) fun _ _ _ _ _ _ us hl => match us, hl with | [_], _ => rfl) (ok_need_house F D_is_house)
  clear F mh
  obtain ⟨f_need_stay, fd_need_stay, F, mh⟩ := E.a_need_stay.ex
  have D_need_stay := dfn_mk (P := P) (w := w) (base := base) F mh (F.binds (ps := ["thing"]) fun _ _ _ _ _ _ us hl => match us, hl with | [_], _ => rfl) (ok_need_stay F D_is_stay)
  clear F mh
  obtain ⟨f_need_stays, fd_need_stays, F, mh⟩ := E.a_need_stays.ex
  have D_need_stays := dfn_mk (P := P) (w := w) (base := base) F mh (F.binds (ps := ["thing"]) fun _ _ _ _ _ _ us hl => match us, hl with | [_], _ => rfl) (ok_need_stays F D_are_stays)
  clear F mh
  obtain ⟨f_need_night, fd_need_night, F, mh⟩ := E.a_need_night.ex
  have D_need_night := dfn_mk (P := P) (w := w) (base := base) F mh (F.binds (ps := ["thing"]) fun _ _ _ _ _ _ us hl => match us, hl with | [_], _ => rfl) (ok_need_night F Cc D_is_among)
  clear F mh
  obtain ⟨f_need_kind, fd_need_kind, F, mh⟩ := E.a_need_kind.ex
  have D_need_kind := dfn_mk (P := P) (w := w) (base := base) F mh (F.binds (ps := ["thing"]) fun _ _ _ _ _ _ us hl => match us, hl with | [_], _ => rfl) (ok_need_kind F D_is_kind)
  clear F mh
  obtain ⟨f_need_nights, fd_need_nights, F, mh⟩ := E.a_need_nights.ex
  have D_need_nights := dfn_mk (P := P) (w := w) (base := base) F mh (F.binds (ps := ["thing"]) fun _ _ _ _ _ _ us hl => match us, hl with | [_], _ => rfl) (ok_need_nights F Cc D_is_among)
  clear F mh
  obtain ⟨f_sleeps, fd_sleeps, F, mh⟩ := E.a_sleeps.ex
  have D_sleeps := dfn_mk (P := P) (w := w) (base := base) F mh (F.binds (ps := ["stay", "night"]) fun _ _ _ _ _ _ us hl => match us, hl with | [_, _], _ => rfl) (ok_sleeps (T := T) F)
  clear F mh
  obtain ⟨f_may_sleep, fd_may_sleep, F, mh⟩ := E.a_may_sleep.ex
  have D_may_sleep := dfn_mk (P := P) (w := w) (base := base) F mh (F.binds (ps := ["house", "stay", "room"]) fun _ _ _ _ _ _ us hl => match us, hl with | [_, _, _], _ => rfl) (ok_may_sleep (T := T) F)
  clear F mh
  obtain ⟨f_from_kind, fd_from_kind, F, mh⟩ := E.a_from_kind.ex
  have D_from_kind := dfn_mk (P := P) (w := w) (base := base) F mh (F.binds (ps := ["kinds", "kind"]) fun _ _ _ _ _ _ us hl => match us, hl with | [_, _], _ => rfl) (ok_from_kind (T := T) F B)
  clear F mh
  obtain ⟨f_spare_by, fd_spare_by, F, mh⟩ := E.a_spare_by.ex
  have D_spare_by := dfn_mk (P := P) (w := w) (base := base) F mh (F.binds (ps := ["house", "stays", "night"]) fun _ _ _ _ _ _ us hl => match us, hl with | [_, _, _], _ => rfl) (ok_spare_by F B Cc D_sleeps D_from_kind)
  clear F mh
  obtain ⟨f_over_by, fd_over_by, F, mh⟩ := E.a_over_by.ex
  have D_over_by := dfn_mk (P := P) (w := w) (base := base) F mh (F.binds (ps := ["house", "stays", "night"]) fun _ _ _ _ _ _ us hl => match us, hl with | [_, _, _], _ => rfl) (ok_over_by F B D_spare_by D_from_kind)
  clear F mh
  obtain ⟨f_nights_of, fd_nights_of, F, mh⟩ := E.a_nights_of.ex
  have D_nights_of := dfn_mk (P := P) (w := w) (base := base) F mh (F.binds (ps := ["stays"]) fun _ _ _ _ _ _ us hl => match us, hl with | [_], _ => rfl) (ok_nights_of (T := T) F B)
  clear F mh
  obtain ⟨f_fits_by, fd_fits_by, F, mh⟩ := E.a_fits_by.ex
  have D_fits_by := dfn_mk (P := P) (w := w) (base := base) F mh (F.binds (ps := ["house", "stays"]) fun _ _ _ _ _ _ us hl => match us, hl with | [_, _], _ => rfl) (ok_fits_by F Cc D_nights_of D_over_by)
  clear F mh
  obtain ⟨f_need_both_fits, fd_need_both_fits, F, mh⟩ := E.a_need_both_fits.ex
  have D_need_both_fits : Dfn P w K mg base "need_both_fits" 7 ["house", "stays"] _ := ⟨_, _, ok_need_both_fits F D_need_house D_need_stays, mh, F.kp, F.binds (ps := ["house", "stays"]) fun _ _ _ _ _ _ us hl => match us, hl with | [_, _], _ => rfl⟩
  clear F mh
  obtain ⟨f_fits, fd_fits, F, mh⟩ := E.a_fits.ex
  have D_fits := dfn_mk (P := P) (w := w) (base := base) F mh (F.binds (ps := ["house", "stays"]) fun _ _ _ _ _ _ us hl => match us, hl with | [_, _], _ => rfl) (ok_fits_def F D_need_both_fits D_fits_by)
  clear F mh
  obtain ⟨f_left_by, fd_left_by, F, mh⟩ := E.a_left_by.ex
  have D_left_by := dfn_mk (P := P) (w := w) (base := base) F mh (F.binds (ps := ["house", "stays", "night", "kind"]) fun _ _ _ _ _ _ us hl => match us, hl with | [_, _, _, _], _ => rfl) (ok_left_by F B D_spare_by)
  clear F mh
  obtain ⟨f_left, fd_left, F, mh⟩ := E.a_left.ex
  have D_left := dfn_mk (P := P) (w := w) (base := base) F mh (F.binds (ps := ["house", "stays", "night", "kind"]) fun _ _ _ _ _ _ us hl => match us, hl with | [_, _, _, _], _ => rfl) (ok_left F D_need_both_fits D_left_by D_need_night D_need_kind)
  clear F mh
  obtain ⟨f_begins, fd_begins, F, mh⟩ := E.a_begins.ex
  have D_begins := dfn_mk (P := P) (w := w) (base := base) F mh (F.binds (ps := ["house", "stays", "kind", "nights"]) fun _ _ _ _ _ _ us hl => match us, hl with | [_, _, _, _], _ => rfl) (ok_begins F B Cc D_need_both_fits D_fits_by D_need_nights D_need_kind)
  clear F mh
  obtain ⟨f_rooms_of, fd_rooms_of, F, mh⟩ := E.a_rooms_of.ex
  have D_rooms_of := dfn_mk (P := P) (w := w) (base := base) F mh (F.binds (ps := ["house", "stay"]) fun _ _ _ _ _ _ us hl => match us, hl with | [_, _], _ => rfl) (ok_rooms_of F B D_may_sleep)
  clear F mh
  obtain ⟨f_in_order, fd_in_order, F, mh⟩ := E.a_in_order.ex
  have D_in_order := dfn_mk (P := P) (w := w) (base := base) F.fn mh (F.fn.binds (ps := ["stays"]) fun _ _ _ _ _ _ us hl => match us, hl with | [_], _ => rfl) (ok_in_order F B L1)
  clear F mh
  obtain ⟨f_taken, fd_taken, F, mh⟩ := E.a_taken.ex
  have D_taken := dfn_mk (P := P) (w := w) (base := base) F mh (F.binds (ps := ["free", "room", "first", "end"]) fun _ _ _ _ _ _ us hl => match us, hl with | [_, _, _, _], _ => rfl) (ok_taken (T := T) F B)
  clear F mh
  obtain ⟨f_many_otherwise, fd_many_otherwise, F, mh⟩ := E.a_many_otherwise.ex
  have D_many_otherwise := dfn_mk (P := P) (w := w) (base := base) F mh (F.binds (ps := ["rooms", "stays", "choices", "told"]) fun _ _ _ _ _ _ us hl => match us, hl with | [_, _, _, _], _ => rfl) (ok_many F B D_in_order D_taken)
  clear F mh
  obtain ⟨f_narrowed, fd_narrowed, F, mh⟩ := E.a_narrowed.ex
  have D_narrowed := dfn_mk (P := P) (w := w) (base := base) F mh (F.binds (ps := ["choices", "number", "room"]) fun _ _ _ _ _ _ us hl => match us, hl with | [_, _, _], _ => rfl) (ok_narrowed (T := T) F)
  clear F mh
  obtain ⟨f_least_by, fd_least_by, F, mh⟩ := E.a_least_by.ex
  have D_least_by := dfn_mk (P := P) (w := w) (base := base) F mh (F.binds (ps := ["rooms", "stays", "choices", "told", "many"]) fun _ _ _ _ _ _ us hl => match us, hl with | [_, _, _, _, _], _ => rfl) (ok_least F B D_narrowed D_many_otherwise)
  clear F mh
  obtain ⟨f_chosen_by, fd_chosen_by, F, mh⟩ := E.a_chosen_by.ex
  have D_chosen_by := dfn_mk (P := P) (w := w) (base := base) F mh (F.binds (ps := ["house", "stays", "told"]) fun _ _ _ _ _ _ us hl => match us, hl with | [_, _, _], _ => rfl) (ok_chosen F B D_rooms_of)
  clear F mh
  obtain ⟨f_plan_with, fd_plan_with, F, mh⟩ := E.a_plan_with.ex
  have D_plan_with := dfn_mk (P := P) (w := w) (base := base) F mh (F.binds (ps := ["house", "stays", "told"]) fun _ _ _ _ _ _ us hl => match us, hl with | [_, _, _], _ => rfl) (ok_plan_with F B D_chosen_by D_many_otherwise D_least_by)
  clear F mh
  obtain ⟨f_plan_by, fd_plan_by, F, mh⟩ := E.a_plan_by.ex
  have D_plan_by := dfn_mk (P := P) (w := w) (base := base) F mh (F.binds (ps := ["house", "stays"]) fun _ _ _ _ _ _ us hl => match us, hl with | [_, _], _ => rfl) (ok_plan_by F B D_plan_with)
  clear F mh
  obtain ⟨f_lots_of, fd_lots_of, F, mh⟩ := E.a_lots_of.ex
  have D_lots_of := dfn_mk (P := P) (w := w) (base := base) F.fn mh (F.fn.binds (ps := ["many"]) fun _ _ _ _ _ _ us hl => match us, hl with | [_], _ => rfl) (ok_lots F B L2)
  clear F mh
  obtain ⟨f_have_plan, fd_have_plan, F, mh⟩ := E.a_have_plan.ex
  have D_have_plan := dfn_mk (P := P) (w := w) (base := base) F mh (F.binds (ps := ["house", "stays", "lot"]) fun _ _ _ _ _ _ us hl => match us, hl with | [_, _, _], _ => rfl) (ok_have F B D_rooms_of D_many_otherwise)
  clear F mh
  obtain ⟨f_need_both_plans, fd_need_both_plans, F, mh⟩ := E.a_need_both_plans.ex
  have D_need_both_plans : Dfn P w K mg base "need_both_plans" 7 ["house", "stays"] _ := ⟨_, _, ok_need_both_plans F D_need_house D_need_stays, mh, F.kp, F.binds (ps := ["house", "stays"]) fun _ _ _ _ _ _ us hl => match us, hl with | [_, _], _ => rfl⟩
  clear F mh
  obtain ⟨f_plan, fd_plan, F, mh⟩ := E.a_plan.ex
  have D_plan := dfn_mk (P := P) (w := w) (base := base) F mh (F.binds (ps := ["house", "stays"]) fun _ _ _ _ _ _ us hl => match us, hl with | [_, _], _ => rfl) (ok_plan F B Cc D_need_both_plans D_plan_by D_lots_of D_have_plan)
  clear F mh
  obtain ⟨f_do_meet, fd_do_meet, F, mh⟩ := E.a_do_meet.ex
  have D_do_meet := dfn_mk (P := P) (w := w) (base := base) F mh (F.binds (ps := ["one", "other"]) fun _ _ _ _ _ _ us hl => match us, hl with | [_, _], _ => rfl) (ok_do_meet (T := T) F)
  clear F mh
  obtain ⟨f_is_plan_by, fd_is_plan_by, F, mh⟩ := E.a_is_plan_by.ex
  have D_is_plan_by := dfn_mk (P := P) (w := w) (base := base) F mh (F.binds (ps := ["house", "stays", "thing"]) fun _ _ _ _ _ _ us hl => match us, hl with | [_, _, _], _ => rfl) (ok_is_plan_by F B D_is_row D_is_among D_may_sleep D_do_meet)
  clear F mh
  obtain ⟨f_shows_plan, fd_shows_plan, F, mh⟩ := E.a_shows_plan.ex
  have D_shows_plan := dfn_mk (P := P) (w := w) (base := base) F mh (F.binds (ps := ["house", "stays", "thing"]) fun _ _ _ _ _ _ us hl => match us, hl with | [_, _, _], _ => rfl) (ok_shows F B Cc D_need_both_plans D_is_row D_is_plan_by)
  clear F mh
  obtain ⟨f_are_rooms, fd_are_rooms, F, mh⟩ := E.a_are_rooms.ex
  have D_are_rooms := dfn_mk (P := P) (w := w) (base := base) F mh (F.binds (ps := ["house", "stays", "thing"]) fun _ _ _ _ _ _ us hl => match us, hl with | [_, _, _], _ => rfl) (ok_are_rooms F B D_is_row D_is_among)
  clear F mh
  obtain ⟨f_nearest, fd_nearest, F, mh⟩ := E.a_nearest.ex
  have D_nearest := dfn_mk (P := P) (w := w) (base := base) F mh (F.binds (ps := ["house", "stays", "told"]) fun _ _ _ _ _ _ us hl => match us, hl with | [_, _, _], _ => rfl) (ok_nearest F B D_need_both_plans D_are_rooms D_rooms_of D_many_otherwise D_least_by)
  clear F mh
  obtain ⟨fI, fdI, F, mh⟩ := E.m___init__.ex
  have FI : FnOk P w K mg base CX0 6 fI fdI ["self", "house"] (spInit K T C) := ok_init F I D_need_house
  have bI : Binds K fdI ["self", "house"] [] := F.binds (ps := ["self", "house"]) fun _ _ _ _ _ _ us hl => match us, hl with | [_, _], _ => rfl
  have mkI : Mk K C fI := ⟨E.mkI, mh.at_, mh.fn, E.kcI⟩
  clear F mh
  obtain ⟨f_mkeep, fd_mkeep, F, mh⟩ := E.m_keep.ex
  have M_keep : Mdn P w K mg base C "keep" 1 ["self"] _ := ⟨_, _, ok_keep (T := T) F I, mh, F.binds (ps := ["self"]) fun _ _ _ _ _ _ us hl => match us, hl with | [_], _ => rfl⟩
  clear F mh
  obtain ⟨f_mnumbers, fd_mnumbers, F, mh⟩ := E.m_numbers.ex
  have M_numbers : Mdn P w K mg base C "numbers" 1 ["self"] _ := ⟨_, _, ok_numbers (T := T) F B I, mh, F.binds (ps := ["self"]) fun _ _ _ _ _ _ us hl => match us, hl with | [_], _ => rfl⟩
  clear F mh
  obtain ⟨f_mkept, fd_mkept, F, mh⟩ := E.m_kept.ex
  have M_kept : Mdn P w K mg base C "kept" 2 ["self"] _ := ⟨_, _, ok_kept F B I M_numbers, mh, F.binds (ps := ["self"]) fun _ _ _ _ _ _ us hl => match us, hl with | [_], _ => rfl⟩
  clear F mh
  obtain ⟨f_mneed_kept, fd_mneed_kept, F, mh⟩ := E.m_need_kept.ex
  have M_need_kept : Mdn P w K mg base C "need_kept" 3 ["self", "number"] _ := ⟨_, _, ok_need_kept F B I D_is_among, mh, F.binds (ps := ["self", "number"]) fun _ _ _ _ _ _ us hl => match us, hl with | [_, _], _ => rfl⟩
  clear F mh
  obtain ⟨f_mwith_room, fd_mwith_room, F, mh⟩ := E.m_with_room.ex
  have M_with_room : Mdn P w K mg base C "with_room" 1 ["self", "number", "room"] _ := ⟨_, _, ok_with_room (T := T) F I, mh, F.binds (ps := ["self", "number", "room"]) fun _ _ _ _ _ _ us hl => match us, hl with | [_, _, _], _ => rfl⟩
  clear F mh
  obtain ⟨f_mbook, fd_mbook, F, mh⟩ := E.m_book.ex
  have X_book : MdX P w K mg base C "book" 6 ["self", "stay"] _ := ⟨_, _, ok_book F B Cc I NT D_need_stay M_kept D_fits_by M_keep Cc.kept, mh, F.binds (ps := ["self", "stay"]) fun _ _ _ _ _ _ us hl => match us, hl with | [_, _], _ => rfl⟩
  clear F mh
  obtain ⟨f_mcancel, fd_mcancel, F, mh⟩ := E.m_cancel.ex
  have M_cancel : Mdn P w K mg base C "cancel" 4 ["self", "number"] _ := ⟨_, _, ok_cancel F B I M_need_kept M_keep M_with_room, mh, F.binds (ps := ["self", "number"]) fun _ _ _ _ _ _ us hl => match us, hl with | [_, _], _ => rfl⟩
  clear F mh
  obtain ⟨f_mput, fd_mput, F, mh⟩ := E.m_put.ex
  have X_put : MdX P w K mg base C "put" 8 ["self", "number", "room"] _ := ⟨_, _, ok_put F B I NT M_need_kept D_is_among D_may_sleep M_with_room M_kept M_numbers D_plan_with M_keep, mh, F.binds (ps := ["self", "number", "room"]) fun _ _ _ _ _ _ us hl => match us, hl with | [_, _, _], _ => rfl⟩
  clear F mh
  obtain ⟨f_mstays, fd_mstays, F, mh⟩ := E.m_stays.ex
  have M_stays : Mdn P w K mg base C "stays" 2 ["self"] _ := ⟨_, _, ok_stays F B I M_numbers, mh, F.binds (ps := ["self"]) fun _ _ _ _ _ _ us hl => match us, hl with | [_], _ => rfl⟩
  clear F mh
  obtain ⟨f_mrooms, fd_mrooms, F, mh⟩ := E.m_rooms.ex
  have M_rooms : Mdn P w K mg base C "rooms" 2 ["self"] _ := ⟨_, _, ok_rooms F B I M_numbers, mh, F.binds (ps := ["self"]) fun _ _ _ _ _ _ us hl => match us, hl with | [_], _ => rfl⟩
  clear F mh
  obtain ⟨f_mplan, fd_mplan, F, mh⟩ := E.m_plan.ex
  have M_plan : Mdn P w K mg base C "plan" 8 ["self"] _ := ⟨_, _, ok_mplan F I M_kept M_rooms D_plan_with, mh, F.binds (ps := ["self"]) fun _ _ _ _ _ _ us hl => match us, hl with | [_], _ => rfl⟩
  clear F mh
  obtain ⟨f_mleft, fd_mleft, F, mh⟩ := E.m_left.ex
  have M_left : Mdn P w K mg base C "left" 5 ["self", "night", "kind"] _ := ⟨_, _, ok_mleft F I M_kept D_left_by D_need_night D_need_kind, mh, F.binds (ps := ["self", "night", "kind"]) fun _ _ _ _ _ _ us hl => match us, hl with | [_, _, _], _ => rfl⟩
  clear F mh
  obtain ⟨f_mtwin, fd_mtwin, F, mh⟩ := E.m_twin.ex
  have M_twin : Mdn P w K mg base C "twin" 8 ["self"] _ := ⟨_, _, ok_twin F B I mkI FI bI gC, mh, F.binds (ps := ["self"]) fun _ _ _ _ _ _ us hl => match us, hl with | [_], _ => rfl⟩
  clear F mh
  obtain ⟨gt, fdt, Ft, mt⟩ := E.a__law_tried.ex
  have bt : Binds K fdt ["_law_call"] [] := Ft.binds (ps := ["_law_call"]) fun _ _ _ _ _ _ us hl => match us, hl with | [_], _ => rfl
  obtain ⟨f__law_cell_at, fd__law_cell_at, F, mh⟩ := E.a__law_cell_at.ex
  have D__law_cell_at := dfn_mk (P := P) (w := w) (base := base) F mh (F.binds (ps := ["_law_script", "_law_k"]) fun _ _ _ _ _ _ us hl => match us, hl with | [_, _], _ => rfl) (ok_cell (T := T) F B)
  clear F mh
  obtain ⟨f__law_pen, fd__law_pen, F, mh⟩ := E.a__law_pen.ex
  have D__law_pen := dfn_mk (P := P) (w := w) (base := base) F mh (F.binds (ps := ["_law_cell"]) fun _ _ _ _ _ _ us hl => match us, hl with | [_], _ => rfl) (ok_pen (T := T) F B)
  clear F mh
  obtain ⟨f__law_draw, fd__law_draw, F, mh⟩ := E.a__law_draw.ex
  have D__law_draw := dfn_mk (P := P) (w := w) (base := base) F mh (F.binds (ps := ["_law_pen_here", "_law_many"]) fun _ _ _ _ _ _ us hl => match us, hl with | [_, _], _ => rfl) (ok_draw (T := T) F)
  clear F mh
  obtain ⟨f__law_house, fd__law_house, F, mh⟩ := E.a__law_house.ex
  have D__law_house := dfn_mk (P := P) (w := w) (base := base) F mh (F.binds (ps := ["_law_pen_here"]) fun _ _ _ _ _ _ us hl => match us, hl with | [_], _ => rfl) (ok_house (K := K) (T := T) F B D__law_draw)
  clear F mh
  obtain ⟨f__law_guest, fd__law_guest, F, mh⟩ := E.a__law_guest.ex
  have D__law_guest := dfn_mk (P := P) (w := w) (base := base) F mh (F.binds (ps := ["_law_pen_here", "_law_house_here"]) fun _ _ _ _ _ _ us hl => match us, hl with | [_, _], _ => rfl) (ok_guest (K := K) (T := T) F B D__law_draw)
  clear F mh
  obtain ⟨f__law_led, fd__law_led, F, mh⟩ := E.a__law_led.ex
  have D__law_led := dfn_mk (P := P) (w := w) (base := base) F.fn mh (F.fn.binds (ps := ["_law_pen_here", "_law_inn", "_law_house_here"]) fun _ _ _ _ _ _ us hl => match us, hl with | [_, _, _], _ => rfl) (ok_led F B I Y L3 Ft bt mt ⟨D__law_draw, D__law_guest, M_stays, X_book, X_put, M_cancel⟩)
  clear F mh
  obtain ⟨f__law_plan_right, fd__law_plan_right, F, mh⟩ := E.a__law_plan_right.ex
  have D__law_plan_right := dfn_mk (P := P) (w := w) (base := base) F mh (F.binds (ps := ["_law_inn", "_law_house_here"]) fun _ _ _ _ _ _ us hl => match us, hl with | [_, _], _ => rfl) (ok_pr F B I ⟨M_stays, M_rooms, M_plan, D_fits, D_nearest, D_plan, D_shows_plan⟩)
  clear F mh
  obtain ⟨f__law_begins_right, fd__law_begins_right, F, mh⟩ := E.a__law_begins_right.ex
  have D__law_begins_right := dfn_mk (P := P) (w := w) (base := base) F.fn mh (F.fn.binds (ps := ["_law_pen_here", "_law_inn", "_law_house_here"]) fun _ _ _ _ _ _ us hl => match us, hl with | [_, _, _], _ => rfl) (ok_br F B I Y L4 Ft bt mt ⟨D__law_draw, M_stays, D_begins, D_left, M_left, M_twin, X_book⟩)
  clear F mh
  exact ok_lw Fl B I mkI FI bI gC ⟨D__law_cell_at, D__law_pen, D__law_house, D__law_led, D__law_plan_right, D__law_begins_right⟩
end N

namespace N
open PySem L2 LamX
theorem kit_self {K : PySem.W.Frag} {c : Addr} : PySem.W.kitOne K (.ref c) (.ref c) = some true := by
  unfold PySem.W.kitOne
  rw [if_pos (beq_self_eq_true _)]
def qL (x : Str) : Str := x ++ (".<locals>." : Str) ++ ("<lambda>" : Str)
theorem tabs_new {H : Hp} {P1 P2 P3 P4 : Addr} (h : ∀ P ∈ [P1, P2, P3, P4], H P = some (.tbl #[])) (q1 q2 q3 q4 : Str) : Tabs [(P1, q1), (P2, q2), (P3, q3), (P4, q4)] H := fun p hp => by
  simp only [List.mem_cons, List.not_mem_nil, or_false] at hp
  rcases hp with z | z | z | z <;> (rw [z]; exact TabS.nil (h _ (by simp)))
theorem uq4 {P1 P2 P3 P4 : Addr} {q1 q2 q3 q4 : Str} (hd : [P1, P2, P3, P4].Nodup) : ∀ p ∈ [(P1, q1), (P2, q2), (P3, q3), (P4, q4)], ∀ r ∈ [(P1, q1), (P2, q2), (P3, q3), (P4, q4)], p.1 = r.1 → p.2 = r.2 := by
  simp only [List.nodup_cons, List.mem_cons, List.not_mem_nil, or_false, not_or] at hd
  obtain ⟨⟨a1, a2, a3⟩, ⟨b1, b2⟩, c1, _⟩ := hd
  intro p hp r hr e
  simp only [List.mem_cons, List.not_mem_nil, or_false] at hp hr
  rcases hp with z | z | z | z <;> rcases hr with y | y | y | y <;> (subst z; subst y; dsimp only at e ⊢ <;> first | rfl | exact absurd e (by first | exact a1 | exact a2 | exact a3 | exact b1 | exact b2 | exact c1 | exact fun z => a1 z.symm | exact fun z => a2 z.symm | exact fun z => a3 z.symm | exact fun z => b1 z.symm | exact fun z => b2 z.symm | exact fun z => c1 z.symm))
theorem end_mk {l : PySem.W.OpenLaw} {w : World} {K : PySem.W.Frag} {h : Heap} {mg : Str → Option Value} {fa C CN CI c1 c2 c3 c4 P1 P2 P3 P4 : Addr} (X : K.In h) (G : h.Ns mainGlobals mg) (hfa : mg ("law" : Str) = some (.ref fa))
    (aN : PySem.W.nsIn K mainGlobals "NotNow" = some (some (.ref CN))) (aI : PySem.W.nsIn K mainGlobals "InnError" = some (some (.ref CI))) (E : Defs K mg C c1 c2 c3 c4)
    (xN : PySem.W.excIn K CN [Value.type "ValueError", Value.type "Exception", Value.type "BaseException", Value.type "object"] "ValueError.__new__" = true) (kN : PySem.W.keepIn K (.ref CN) = true) (bN : PySem.W.subIn K (.ref CN) (.type "BaseException") = some true) (tN : PySem.W.typeIn K (.ref CN) = some (.type "type"))
    (bI : PySem.W.subIn K (.ref CI) (.type "BaseException") = some true) (hI : PySem.W.hasDictIn K CI = true) (tI : PySem.W.typeIn K (.ref CI) = some (.type "type")) (sNI : PySem.W.subIn K (.ref CN) (.ref CI) = some true) (xc : ExcC K CN)
    (hT : ∀ P ∈ [P1, P2, P3, P4], h.get? P = some { cls := .none, data := .fields #[] }) (nT : ∀ P ∈ [P1, P2, P3, P4], K.lookup P = none) (hd : [P1, P2, P3, P4].Nodup)
    (d1 : PySem.W.codeHdIn K c1 P1 = true) (d2 : PySem.W.codeHdIn K c2 P2 = true) (d3 : PySem.W.codeHdIn K c3 P3 = true) (d4 : PySem.W.codeHdIn K c4 P4 = true) : LawAtS l w K L2.CX0 12 63 "_law_script" mg fa h := by
  obtain ⟨f, fd, F, hm⟩ := E.a_law.ex
  rw [hm] at hfa
  cases hfa
  have NT : NTx K mg CN := ⟨xN, PySem.W.mg_of X G aN, kN, bN, tN⟩
  have Y : NTy K mg CN CI := ⟨PySem.W.mg_of X G aI, PySem.W.mg_of X G aN, PySem.W.exm_ref bI hI tI sNI, xc, kit_self⟩
  have F0 := F
  obtain ⟨oc, od, kV, dc, pm, an, cd, ct, osl, rfl, lk, hcd⟩ := F.ex
  have mem : ∀ p ∈ [(c1, P1), (c2, P2), (c3, P3), (c4, P4)], p.2 ∈ [P1, P2, P3, P4] := fun p hp => by
    simp only [List.mem_cons, List.not_mem_nil, or_false] at hp
    rcases hp with z | z | z | z <;> (rw [z]; simp)
  refine ⟨PySem.W.fnOf "law" "law" (defArgs (top 84)) (defBody (top 84)) (defScope (top 84)) .none kV dc pm an cd ct, [(c1, P1), (c2, P2), (c3, P3), (c4, P4)], spLaw K [(P1, qL "in_order"), (P2, qL "lots_of"), (P3, qL "_law_led"), (P4, qL "_law_begins_right")], fun p hp => hT _ (mem p hp), fun p hp => nT _ (mem p hp), fun p hp => ?_, fun s u => .of_eq rfl, fun H a ns hl _ ht hs => ?_, fun base hK hns htb => ?_⟩
  · simp only [List.mem_cons, List.not_mem_nil, or_false] at hp
    rcases hp with z | z | z | z
    · rw [z]; exact PySem.W.codeHd_of_K X d1
    · rw [z]; exact PySem.W.codeHd_of_K X d2
    · rw [z]; exact PySem.W.codeHd_of_K X d3
    · rw [z]; exact PySem.W.codeHd_of_K X d4
  · refine ⟨a, ns, rfl, tabs_new (fun P hP => ?_) _ _ _ _, hs, hl, fun _ => rfl⟩
    simp only [List.mem_cons, List.not_mem_nil, or_false] at hP
    rcases hP with z | z | z | z
    · rw [z]; exact ht (c1, P1) (by simp)
    · rw [z]; exact ht (c2, P2) (by simp)
    · rw [z]; exact ht (c3, P3) (by simp)
    · rw [z]; exact ht (c4, P4) (by simp)
  · have u := uq4 (q1 := qL "in_order") (q2 := qL "lots_of") (q3 := qL "_law_led") (q4 := qL "_law_begins_right") hd
    exact law_ok (T := [(P1, qL "in_order"), (P2, qL "lots_of"), (P3, qL "_law_led"), (P4, qL "_law_begins_right")]) E NT Y ⟨htb (c1, P1) (by simp), by simp [qL], fun p hp e => u p hp (P1, qL "in_order") (by simp) e⟩ ⟨htb (c2, P2) (by simp), by simp [qL], fun p hp e => u p hp (P2, qL "lots_of") (by simp) e⟩ ⟨htb (c3, P3) (by simp), by simp [qL], fun p hp e => u p hp (P3, qL "_law_led") (by simp) e⟩ ⟨htb (c4, P4) (by simp), by simp [qL], fun p hp e => u p hp (P4, qL "_law_begins_right") (by simp) e⟩ F0
end N

open PySem PySem.W PyProof.Rows
set_option maxRecDepth 100000 in
set_option maxHeartbeats 0 in
theorem PySem.Challenge.cw_nightsheld_k77_whole_inns_keep_their_wor_holds : PySem.Challenge.rw_nightsheld_k77_whole_inns_keep_their_wor.Holds := by
  w_on; o_law; k_head; (case hw => w_witness2)
  k_fill
  refine LamX.walk_ofTs (l := PySem.Challenge.rw_nightsheld_k77_whole_inns_keep_their_wor) (n := 63) (k := 12) (x := "_law_script") (CX := fun _ => L2.CX0) rfl (by decide) rfl ⟨rfl, by decide, by decide⟩ (fun w h Y => PySem.W.km_in_of Y) ?F (fun _ _ _ _ _ z => z)
  case F =>
    intro w mg fa h Y KX G hmg
    have hT := PySem.W.km_tabs_of Y
    refine' N.end_mk (P1 := 312) (P2 := 362) (P3 := 588) (P4 := 598) KX G hmg (by k_is) (by k_is) ?E (by k_exc) (by k_is) (by k_is) (by k_is) (by k_is) (by k_is) (by k_is) (by k_is) ⟨by k_is, by k_is, by k_is, by k_is, by k_is, by k_is, by k_is, by k_is⟩ (fun P hP => hT P (by simp only [List.mem_cons, List.not_mem_nil, or_false] at hP ⊢; rcases hP with z | z | z | z <;> first | exact .inl z | exact .inr (.inl z) | exact .inr (.inr (.inl z)) | exact .inr (.inr (.inr z)))) ?nT (by decide) ?d1 ?d2 ?d3 ?d4
    case E =>
      refine' { a_is_whole := ?a_is_whole, a_is_among := ?a_is_among, a_is_row := ?a_is_row, a_is_kind := ?a_is_kind, a_is_house := ?a_is_house, a_is_stay := ?a_is_stay, a_are_stays := ?a_are_stays, a_need_house := ?a_need_house, a_need_stay := ?a_need_stay, a_need_stays := ?a_need_stays, a_need_night := ?a_need_night, a_need_kind := ?a_need_kind, a_need_nights := ?a_need_nights, a_sleeps := ?a_sleeps, a_may_sleep := ?a_may_sleep, a_from_kind := ?a_from_kind, a_spare_by := ?a_spare_by, a_over_by := ?a_over_by, a_nights_of := ?a_nights_of, a_fits_by := ?a_fits_by, a_need_both_fits := ?a_need_both_fits, a_fits := ?a_fits, a_left_by := ?a_left_by, a_left := ?a_left, a_begins := ?a_begins, a_rooms_of := ?a_rooms_of, a_in_order := ?a_in_order, a_taken := ?a_taken, a_many_otherwise := ?a_many_otherwise, a_narrowed := ?a_narrowed, a_least_by := ?a_least_by, a_chosen_by := ?a_chosen_by, a_plan_with := ?a_plan_with, a_plan_by := ?a_plan_by, a_lots_of := ?a_lots_of, a_have_plan := ?a_have_plan, a_need_both_plans := ?a_need_both_plans, a_plan := ?a_plan, a_do_meet := ?a_do_meet, a_is_plan_by := ?a_is_plan_by, a_shows_plan := ?a_shows_plan, a_are_rooms := ?a_are_rooms, a_nearest := ?a_nearest, a__law_cell_at := ?a__law_cell_at, a__law_pen := ?a__law_pen, a__law_draw := ?a__law_draw, a__law_house := ?a__law_house, a__law_guest := ?a__law_guest, a__law_led := ?a__law_led, a__law_plan_right := ?a__law_plan_right, a__law_begins_right := ?a__law_begins_right, a__law_tried := ?a__law_tried, a_law := ?a_law, m___init__ := ?m___init__, m_keep := ?m_keep, m_numbers := ?m_numbers, m_kept := ?m_kept, m_need_kept := ?m_need_kept, m_with_room := ?m_with_room, m_book := ?m_book, m_cancel := ?m_cancel, m_put := ?m_put, m_stays := ?m_stays, m_rooms := ?m_rooms, m_plan := ?m_plan, m_left := ?m_left, m_twin := ?m_twin, I := ?I, gC := ?gC, mkI := ?mkI, kcI := ?kcI, B := ?B, Cc := ?Cc }
      (case gC => exact PySem.W.mg_of KX G (by k_is))
      (case a_is_whole => exact N.at_mk KX G (by k_is) (by k_is) (by k_is) (by k_is))
      (case a_is_among => exact N.at_mk KX G (by k_is) (by k_is) (by k_is) (by k_is))
      (case a_is_row => exact N.at_mk KX G (by k_is) (by k_is) (by k_is) (by k_is))
      (case a_is_kind => exact N.at_mk KX G (by k_is) (by k_is) (by k_is) (by k_is))
      (case a_is_house => exact N.at_mk KX G (by k_is) (by k_is) (by k_is) (by k_is))
      (case a_is_stay => exact N.at_mk KX G (by k_is) (by k_is) (by k_is) (by k_is))
      (case a_are_stays => exact N.at_mk KX G (by k_is) (by k_is) (by k_is) (by k_is))
      (case a_need_house => exact N.at_mk KX G (by k_is) (by k_is) (by k_is) (by k_is))
      (case a_need_stay => exact N.at_mk KX G (by k_is) (by k_is) (by k_is) (by k_is))
      (case a_need_stays => exact N.at_mk KX G (by k_is) (by k_is) (by k_is) (by k_is))
      (case a_need_night => exact N.at_mk KX G (by k_is) (by k_is) (by k_is) (by k_is))
      (case a_need_kind => exact N.at_mk KX G (by k_is) (by k_is) (by k_is) (by k_is))
      (case a_need_nights => exact N.at_mk KX G (by k_is) (by k_is) (by k_is) (by k_is))
      (case a_sleeps => exact N.at_mk KX G (by k_is) (by k_is) (by k_is) (by k_is))
      (case a_may_sleep => exact N.at_mk KX G (by k_is) (by k_is) (by k_is) (by k_is))
      (case a_from_kind => exact N.at_mk KX G (by k_is) (by k_is) (by k_is) (by k_is))
      (case a_spare_by => exact N.at_mk KX G (by k_is) (by k_is) (by k_is) (by k_is))
      (case a_over_by => exact N.at_mk KX G (by k_is) (by k_is) (by k_is) (by k_is))
      (case a_nights_of => exact N.at_mk KX G (by k_is) (by k_is) (by k_is) (by k_is))
      (case a_fits_by => exact N.at_mk KX G (by k_is) (by k_is) (by k_is) (by k_is))
      (case a_need_both_fits => exact N.at_mk KX G (by k_is) (by k_is) (by k_is) (by k_is))
      (case a_fits => exact N.at_mk KX G (by k_is) (by k_is) (by k_is) (by k_is))
      (case a_left_by => exact N.at_mk KX G (by k_is) (by k_is) (by k_is) (by k_is))
      (case a_left => exact N.at_mk KX G (by k_is) (by k_is) (by k_is) (by k_is))
      (case a_begins => exact N.at_mk KX G (by k_is) (by k_is) (by k_is) (by k_is))
      (case a_rooms_of => exact N.at_mk KX G (by k_is) (by k_is) (by k_is) (by k_is))
      (case a_in_order => exact N.atC_mk KX G (by k_is) (by k_is) (by k_is) (by k_is))
      (case a_taken => exact N.at_mk KX G (by k_is) (by k_is) (by k_is) (by k_is))
      (case a_many_otherwise => exact N.at_mk KX G (by k_is) (by k_is) (by k_is) (by k_is))
      (case a_narrowed => exact N.at_mk KX G (by k_is) (by k_is) (by k_is) (by k_is))
      (case a_least_by => exact N.at_mk KX G (by k_is) (by k_is) (by k_is) (by k_is))
      (case a_chosen_by => exact N.at_mk KX G (by k_is) (by k_is) (by k_is) (by k_is))
      (case a_plan_with => exact N.at_mk KX G (by k_is) (by k_is) (by k_is) (by k_is))
      (case a_plan_by => exact N.at_mk KX G (by k_is) (by k_is) (by k_is) (by k_is))
      (case a_lots_of => exact N.atC_mk KX G (by k_is) (by k_is) (by k_is) (by k_is))
      (case a_have_plan => exact N.at_mk KX G (by k_is) (by k_is) (by k_is) (by k_is))
      (case a_need_both_plans => exact N.at_mk KX G (by k_is) (by k_is) (by k_is) (by k_is))
      (case a_plan => exact N.at_mk KX G (by k_is) (by k_is) (by k_is) (by k_is))
      (case a_do_meet => exact N.at_mk KX G (by k_is) (by k_is) (by k_is) (by k_is))
      (case a_is_plan_by => exact N.at_mk KX G (by k_is) (by k_is) (by k_is) (by k_is))
      (case a_shows_plan => exact N.at_mk KX G (by k_is) (by k_is) (by k_is) (by k_is))
      (case a_are_rooms => exact N.at_mk KX G (by k_is) (by k_is) (by k_is) (by k_is))
      (case a_nearest => exact N.at_mk KX G (by k_is) (by k_is) (by k_is) (by k_is))
      (case a__law_cell_at => exact N.at_mk KX G (by k_is) (by k_is) (by k_is) (by k_is))
      (case a__law_pen => exact N.at_mk KX G (by k_is) (by k_is) (by k_is) (by k_is))
      (case a__law_draw => exact N.at_mk KX G (by k_is) (by k_is) (by k_is) (by k_is))
      (case a__law_house => exact N.at_mk KX G (by k_is) (by k_is) (by k_is) (by k_is))
      (case a__law_guest => exact N.at_mk KX G (by k_is) (by k_is) (by k_is) (by k_is))
      (case a__law_led => exact N.atC_mk KX G (by k_is) (by k_is) (by k_is) (by k_is))
      (case a__law_plan_right => exact N.at_mk KX G (by k_is) (by k_is) (by k_is) (by k_is))
      (case a__law_begins_right => exact N.atC_mk KX G (by k_is) (by k_is) (by k_is) (by k_is))
      (case a__law_tried => exact N.at_mk KX G (by k_is) (by k_is) (by k_is) (by k_is))
      (case a_law => exact N.at_mk KX G (by k_is) (by k_is) (by k_is) (by k_is))
      (case m___init__ => exact N.atM_mk (by k_is) (by k_is) (by k_is) (by k_is) (by k_is))
      (case m_keep => exact N.atM_mk (by k_is) (by k_is) (by k_is) (by k_is) (by k_is))
      (case m_numbers => exact N.atM_mk (by k_is) (by k_is) (by k_is) (by k_is) (by k_is))
      (case m_kept => exact N.atM_mk (by k_is) (by k_is) (by k_is) (by k_is) (by k_is))
      (case m_need_kept => exact N.atM_mk (by k_is) (by k_is) (by k_is) (by k_is) (by k_is))
      (case m_with_room => exact N.atM_mk (by k_is) (by k_is) (by k_is) (by k_is) (by k_is))
      (case m_book => exact N.atM_mk (by k_is) (by k_is) (by k_is) (by k_is) (by k_is))
      (case m_cancel => exact N.atM_mk (by k_is) (by k_is) (by k_is) (by k_is) (by k_is))
      (case m_put => exact N.atM_mk (by k_is) (by k_is) (by k_is) (by k_is) (by k_is))
      (case m_stays => exact N.atM_mk (by k_is) (by k_is) (by k_is) (by k_is) (by k_is))
      (case m_rooms => exact N.atM_mk (by k_is) (by k_is) (by k_is) (by k_is) (by k_is))
      (case m_plan => exact N.atM_mk (by k_is) (by k_is) (by k_is) (by k_is) (by k_is))
      (case m_left => exact N.atM_mk (by k_is) (by k_is) (by k_is) (by k_is) (by k_is))
      (case m_twin => exact N.atM_mk (by k_is) (by k_is) (by k_is) (by k_is) (by k_is))
      (case I => exact ⟨⟨by k_is, by k_is, by k_is, by k_is⟩, by (show PySem.W.findIn _ _ _ = _; k_is), by (show PySem.W.findIn _ _ _ = _; k_is), by (show PySem.W.findIn _ _ _ = _; k_is), by (show PySem.W.findIn _ _ _ = _; k_is), by (show PySem.W.findIn _ _ _ = _; k_is)⟩)
      (case mkI => k_is)
      (case kcI => k_is)
      (case B => exact ⟨PySem.W.mg_none_of KX G (by k_is), PySem.W.mg_none_of KX G (by k_is), PySem.W.mg_none_of KX G (by k_is), PySem.W.mg_none_of KX G (by k_is), PySem.W.mg_none_of KX G (by k_is), PySem.W.mg_none_of KX G (by k_is), PySem.W.mg_none_of KX G (by k_is), PySem.W.mg_none_of KX G (by k_is), PySem.W.mg_none_of KX G (by k_is), PySem.W.mg_none_of KX G (by k_is), PySem.W.mg_none_of KX G (by k_is), PySem.W.mg_none_of KX G (by k_is), PySem.W.mg_none_of KX G (by k_is), PySem.W.mg_none_of KX G (by k_is), PySem.W.mg_none_of KX G (by k_is)⟩)
      (case Cc => exact ⟨N.gi_mk KX G (by k_is), N.gi_mk KX G (by k_is), N.gi_mk KX G (by k_is), N.gi_mk KX G (by k_is), N.gi_mk KX G (by k_is), N.gi_mk KX G (by k_is), N.gs_mk KX G (by k_is), N.gs_mk KX G (by k_is), N.gs_mk KX G (by k_is), N.gs_mk KX G (by k_is), N.gi_mk KX G (by k_is)⟩)
    case nT =>
      intro P hP
      simp only [List.mem_cons, List.not_mem_nil, or_false] at hP
      rcases hP with z | z | z | z <;> (subst z; kernel_rfl)
    case d1 => kernel_rfl
    case d2 => kernel_rfl
    case d3 => kernel_rfl
    case d4 => kernel_rfl
