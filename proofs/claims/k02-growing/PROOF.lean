import PyProof.Rows.All
import Wide.All
import OpenK.AllK
import Wide.FinOn
import HandS.ForMost
import HandS.ForExc
import HandS.TupAny
import HandS.TupMul
import HandS.Style
import HandS.TupLe
import KE.LtData
import KE.DataCmp
import KE.DataEq
import KE.SortData
import KE.DataIsa
import HandS.TupSets
import HandS.Zip
import HandS.Conv
import HandS.SetFor
import HandS.Remove
import KE.DataMinMax
import HandS.HotCalls
import HandS.ExcIs
import HandS.Deep
import KE.DataFind
import PySem.Challenge.RW_threeplans_k02_whole_growing
set_option Elab.async false
set_option linter.all false
set_option maxRecDepth 100000
set_option maxHeartbeats 1000000
/-! The data layer, its ground: values without the heap, what a heap bears of them, what a run may change. -/
namespace DL
open PySem L2
/-- a value of the program: data, the script, the law's list of draws, an organizer by its number -/
inductive U where
  | d (x : PyData)
  | sc
  | tw
  | o (k : Nat)
  /-- an error of the class c, in hand -/
  | x (c : Nat)
structure Org where
  players : Int
  threes : List PyData
  kept : Int
structure Sto where
  tw : Option Nat
  os : List Org
inductive Cell where
  | u (x : U)
  | own (xs : List PyData)
abbrev En := List (Option Cell)
/-- nothing (not told), or a value, or an error of the class c; the store behind it -/
abbrev Rs (α : Type) := Option (Except Nat α × Sto)
def bnd {α β : Type} (r : Rs α) (k : α → Sto → Rs β) : Rs β :=
  match r with
  | some (.ok a, S) => k a S
  | some (.error c, S) => some (.error c, S)
  | none => none
abbrev SemE := En → Sto → Rs U
abbrev SemT := En → Sto → Rs Bool
abbrev SemA := En → Sto → Rs (List U)
/-- what does not change through the law: the written part, the classes' places -/
structure Wd where
  K : PySem.W.Frag
  ca : Nat → Addr
  oc : Addr
  sa : Addr
  ns : List Int
  xa : Addr
  xc : Nat
/-- the lists that data may hold; the town's place; the organizers' places and those of their lists -/
structure Gh where
  F : Addr → Prop
  ta : Option Addr
  oa : List (Addr × Addr)
def Gh.M (G : Gh) (a : Addr) : Prop := G.ta = some a ∨ ∃ t ∈ G.oa, a = t.1 ∨ a = t.2
mutual
inductive Rp (F : Addr → Prop) (H : Hp) : V → PyData → Prop
  | non : Rp F H .non .none
  | bl (b : Bool) : Rp F H (.bl b) (.bool b)
  | int (i : Int) : Rp F H (.int i) (.int i)
  | str (x : Str) : Rp F H (.str x) (.str x)
  | lst {a : Addr} {xs : List V} {ds : List PyData} : F a → H a = some (.lst xs) → RpAll F H xs ds → Rp F H (.ref a) (.list ds)
  | tup {a : Addr} {xs : List V} {ds : List PyData} : H a = some (.tup xs) → RpAll F H xs ds → Rp F H (.ref a) (.tuple ds)
inductive RpAll (F : Addr → Prop) (H : Hp) : List V → List PyData → Prop
  | nil : RpAll F H [] []
  | cons {v : V} {vs : List V} {d : PyData} {ds : List PyData} : Rp F H v d → RpAll F H vs ds → RpAll F H (v :: vs) (d :: ds)
end
mutual
/-- no list lies within -/
def noLst : PyData → Bool
  | .list _ => false
  | .tuple xs => noLstAll xs
  | _ => true
def noLstAll : List PyData → Bool
  | [] => true
  | x :: xs => noLst x && noLstAll xs
end
section
variable {F F' : Addr → Prop} {H H' : Hp}
mutual
theorem Rp.move (hl : ∀ a xs, F a → H a = some (.lst xs) → F' a ∧ H' a = some (.lst xs)) (ht : ∀ a xs, H a = some (.tup xs) → H' a = some (.tup xs)) : ∀ (d : PyData) (v : V), Rp F H v d → Rp F' H' v d
  | .none, _, h => by cases h; exact .non
  | .bool _, _, h => by cases h; exact .bl _
  | .int _, _, h => by cases h; exact .int _
  | .str _, _, h => by cases h; exact .str _
  | .list ds, _, h => by
    cases h with
    | lst hf hr ha => exact .lst (hl _ _ hf hr).1 (hl _ _ hf hr).2 (RpAll.move hl ht ds _ ha)
  | .tuple ds, _, h => by
    cases h with
    | tup hr ha => exact .tup (ht _ _ hr) (RpAll.move hl ht ds _ ha)
  | .dict _, _, h => by cases h
theorem RpAll.move (hl : ∀ a xs, F a → H a = some (.lst xs) → F' a ∧ H' a = some (.lst xs)) (ht : ∀ a xs, H a = some (.tup xs) → H' a = some (.tup xs)) : ∀ (ds : List PyData) (vs : List V), RpAll F H vs ds → RpAll F' H' vs ds
  | [], _, h => by cases h; exact .nil
  | d :: ds, _, h => by
    cases h with
    | cons h1 h2 => exact .cons (Rp.move hl ht d _ h1) (RpAll.move hl ht ds _ h2)
end
mutual
theorem Rp.flat (ht : ∀ a xs, H a = some (.tup xs) → H' a = some (.tup xs)) : ∀ (d : PyData) (v : V), noLst d = true → Rp F H v d → Rp F' H' v d
  | .none, _, _, h => by cases h; exact .non
  | .bool _, _, _, h => by cases h; exact .bl _
  | .int _, _, _, h => by cases h; exact .int _
  | .str _, _, _, h => by cases h; exact .str _
  | .list ds, _, hn, h => by rw [noLst] at hn; cases hn
  | .tuple ds, _, hn, h => by
    rw [noLst] at hn
    cases h with
    | tup hr ha => exact .tup (ht _ _ hr) (RpAll.flat ht ds _ hn ha)
  | .dict _, _, _, h => by cases h
theorem RpAll.flat (ht : ∀ a xs, H a = some (.tup xs) → H' a = some (.tup xs)) : ∀ (ds : List PyData) (vs : List V), noLstAll ds = true → RpAll F H vs ds → RpAll F' H' vs ds
  | [], _, _, h => by cases h; exact .nil
  | d :: ds, _, hn, h => by
    rw [noLstAll, Bool.and_eq_true] at hn
    cases h with
    | cons h1 h2 => exact .cons (Rp.flat ht d _ hn.1 h1) (RpAll.flat ht ds _ hn.2 h2)
end
theorem RpAll.length : ∀ {vs : List V} {ds : List PyData}, RpAll F H vs ds → vs.length = ds.length
  | _, _, .nil => rfl
  | _, _, .cons _ t => by rw [List.length_cons, List.length_cons, RpAll.length t]
theorem RpAll.getD : ∀ {vs : List V} {ds : List PyData} {i : Nat} {d : PyData}, RpAll F H vs ds → ds[i]? = some d → ∃ v, vs[i]? = some v ∧ Rp F H v d
  | _, _, _, _, .nil, e => by simp at e
  | _, _, 0, _, .cons h _, e => by
    simp at e
    subst e
    exact ⟨_, rfl, h⟩
  | _, _, i + 1, _, .cons _ t, e => by
    obtain ⟨d, e1, h⟩ := RpAll.getD (i := i) t (by simpa using e)
    exact ⟨d, by simpa using e1, h⟩
theorem RpAll.append : ∀ {vs ws : List V} {ds es : List PyData}, RpAll F H vs ds → RpAll F H ws es → RpAll F H (vs ++ ws) (ds ++ es)
  | _, _, _, _, .nil, h => h
  | _, _, _, _, .cons h t, h2 => .cons h (RpAll.append t h2)
theorem RpAll.take : ∀ {vs : List V} {ds : List PyData} (n : Nat), RpAll F H vs ds → RpAll F H (vs.take n) (ds.take n)
  | _, _, 0, _ => by simp; exact .nil
  | _, _, _ + 1, .nil => by simp; exact .nil
  | _, _, n + 1, .cons h t => .cons h (RpAll.take n t)
theorem RpAll.drop : ∀ {vs : List V} {ds : List PyData} (n : Nat), RpAll F H vs ds → RpAll F H (vs.drop n) (ds.drop n)
  | _, _, 0, h => h
  | _, _, _ + 1, .nil => by simp; exact .nil
  | _, _, n + 1, .cons _ t => RpAll.drop n t
mutual
theorem Rp.dp (K : PySem.W.Frag) : ∀ (d : PyData) (v : V), Rp F H v d → Dp K H v d
  | .none, _, h => by cases h; exact .non
  | .bool _, _, h => by cases h; exact .bl _
  | .int _, _, h => by cases h; exact .int _
  | .str _, _, h => by cases h; exact .str _
  | .list ds, _, h => by
    cases h with
    | lst hf hr ha => exact .lst (.inl (.inl hr)) (RpAll.dp K ds _ ha)
  | .tuple ds, _, h => by
    cases h with
    | tup hr ha => exact .tup (.inl (.inl hr)) (RpAll.dp K ds _ ha)
  | .dict _, _, h => by cases h
theorem RpAll.dp (K : PySem.W.Frag) : ∀ (ds : List PyData) (vs : List V), RpAll F H vs ds → DpAll K H vs ds
  | [], _, h => by cases h; exact .nil
  | d :: ds, _, h => by
    cases h with
    | cons h1 h2 => exact .cons (Rp.dp K d _ h1) (RpAll.dp K ds _ h2)
end
end
def fsOrg (n : Int) (l : Addr) (kept : Int) : List (Str × V) := putF "kept" (.int kept) (putF "threes" (.ref l) (putF "players" (.int n) []))
def RpU (wd : Wd) (G : Gh) (H : Hp) (v : V) : U → Prop
  | .d x => Rp G.F H v x
  | .sc => v = .ref wd.sa
  | .tw => ∃ a, G.ta = some a ∧ v = .ref a
  | .o k => ∃ t, G.oa[k]? = some t ∧ v = .ref t.1
  | .x c => v = .ref wd.xa ∧ wd.xc = c
/-- the heap bears the store -/
structure GOk (wd : Wd) (G : Gh) (H : Hp) (S : Sto) : Prop where
  fresh : ∀ p, H p = none → G.F p
  mF : ∀ a, G.M a → ¬ G.F a
  town : ∀ a, G.ta = some a → ∃ xs, H a = some (.lst xs) ∧ S.tw = some xs.length
  townN : S.tw = none → G.ta = none
  olen : G.oa.length = S.os.length
  org : ∀ (k : Nat) (t : Addr × Addr) (g : Org), G.oa[k]? = some t → S.os[k]? = some g → ∃ dx vs, H t.1 = some (.ins wd.oc dx (fsOrg g.players t.2 g.kept)) ∧ H t.2 = some (.lst vs) ∧ RpAll (fun _ => False) H vs g.threes
  nd1 : (G.oa.map (·.1)).Nodup
  nd2 : (G.oa.map (·.2)).Nodup
  ndt : ∀ a, G.ta = some a → ∀ t ∈ G.oa, t.2 ≠ a
  scr : (∃ o, H wd.sa = some (.frz o (.lst (wd.ns.map V.int)))) ∨ SqL wd.K (fun _ => none) wd.sa (wd.ns.map V.int)
theorem GOk.mut {wd : Wd} {G : Gh} {H : Hp} {S : Sto} (g : GOk wd G H S) {a : Addr} (h : G.M a) : (∃ xs, H a = some (.lst xs)) ∨ ∃ C dx fs, H a = some (.ins C dx fs) := by
  rcases h with h | ⟨t, ht, h⟩
  · obtain ⟨xs, e, _⟩ := g.town a h
    exact .inl ⟨xs, e⟩
  · obtain ⟨k, hk⟩ := List.mem_iff_getElem?.mp ht
    have hlt : k < S.os.length := by
      rw [← g.olen]
      exact (List.getElem?_eq_some_iff.mp hk).1
    obtain ⟨dx, vs, e1, e2, _⟩ := g.org k t _ hk (List.getElem?_eq_getElem hlt)
    rcases h with h | h
    · rw [h]; exact .inr ⟨_, _, _, e1⟩
    · rw [h]; exact .inl ⟨_, e2⟩
theorem GOk.tup {wd : Wd} {G : Gh} {H : Hp} {S : Sto} (g : GOk wd G H S) {a : Addr} {xs : List V} (h : H a = some (.tup xs)) : ¬ G.M a := fun m => by
  rcases g.mut m with ⟨ys, e⟩ | ⟨C, dx, fs, e⟩ <;> (rw [e] at h; cases h)
structure Grow (wd : Wd) (G : Gh) (H : Hp) (G' : Gh) (H' : Hp) (S' : Sto) : Prop where
  ok : GOk wd G' H' S'
  sub : ∀ a, G'.F a → G.F a
  keep : ∀ a o, H a = some o → G.F a → G'.F a
  same : ∀ a o, H a = some o → ¬ G.M a → H' a = some o
  mem : ∀ a, G'.M a → G.M a ∨ H a = none
  there : ∀ a o, H a = some o → ∃ o', H' a = some o'
  ta : ∀ a, G.ta = some a → G'.ta = some a
  oa : ∀ (k : Nat) (t : Addr × Addr), G.oa[k]? = some t → ∃ l, G'.oa[k]? = some (t.1, l)
section
variable {wd : Wd} {G G1 G2 G' : Gh} {H H1 H2 H' : Hp} {S S1 S2 S' : Sto}
theorem Grow.refl (g : GOk wd G H S) : Grow wd G H G H S :=
  ⟨g, fun _ h => h, fun _ _ _ h => h, fun _ _ h _ => h, fun _ h => .inl h, fun _ o h => ⟨o, h⟩, fun _ h => h, fun _ t h => ⟨t.2, h⟩⟩
theorem Grow.none_of (g : Grow wd G H G' H' S') {a : Addr} (h : H' a = none) : H a = none := by
  cases e : H a with
  | none => rfl
  | some o =>
    obtain ⟨o', e'⟩ := g.there a o e
    rw [h] at e'; cases e'
theorem Grow.trans (a : Grow wd G H G1 H1 S1) (b : Grow wd G1 H1 G2 H2 S2) : Grow wd G H G2 H2 S2 where
  ok := b.ok
  sub := fun x h => a.sub x (b.sub x h)
  keep := fun x o h f => by
    obtain ⟨o', e⟩ := a.there x o h
    exact b.keep x o' e (a.keep x o h f)
  same := fun x o h m => b.same x o (a.same x o h m) fun m1 => by
    rcases a.mem x m1 with z | z
    · exact m z
    · rw [h] at z; cases z
  mem := fun x m => by
    rcases b.mem x m with z | z
    · exact a.mem x z
    · exact .inr (a.none_of z)
  there := fun x o h => by
    obtain ⟨o', e⟩ := a.there x o h
    exact b.there x o' e
  ta := fun x h => b.ta x (a.ta x h)
  oa := fun k t h => by
    obtain ⟨l, e⟩ := a.oa k t h
    exact b.oa k (t.1, l) e
theorem Grow.lst (gr : Grow wd G H G' H' S') (g : GOk wd G H S) {a : Addr} {xs : List V} (f : G.F a) (h : H a = some (.lst xs)) : G'.F a ∧ H' a = some (.lst xs) :=
  ⟨gr.keep a _ h f, gr.same a _ h fun m => g.mF a m f⟩
theorem Grow.tup (gr : Grow wd G H G' H' S') (g : GOk wd G H S) {a : Addr} {xs : List V} (h : H a = some (.tup xs)) : H' a = some (.tup xs) := gr.same a _ h (g.tup h)
theorem Grow.rp (gr : Grow wd G H G' H' S') (g : GOk wd G H S) {v : V} {d : PyData} (h : Rp G.F H v d) : Rp G'.F H' v d := Rp.move (fun _ _ f r => gr.lst g f r) (fun _ _ r => gr.tup g r) d v h
theorem Grow.rpAll (gr : Grow wd G H G' H' S') (g : GOk wd G H S) {vs : List V} {ds : List PyData} (h : RpAll G.F H vs ds) : RpAll G'.F H' vs ds := RpAll.move (fun _ _ f r => gr.lst g f r) (fun _ _ r => gr.tup g r) ds vs h
theorem Grow.rpU (gr : Grow wd G H G' H' S') (g : GOk wd G H S) {v : V} {u : U} (h : RpU wd G H v u) : RpU wd G' H' v u := by
  cases u with
  | d x => exact gr.rp g h
  | sc => exact h
  | tw =>
    obtain ⟨a, e, rfl⟩ := h
    exact ⟨a, gr.ta a e, rfl⟩
  | o k =>
    obtain ⟨t, e, rfl⟩ := h
    obtain ⟨l, e'⟩ := gr.oa k t e
    exact ⟨_, e', rfl⟩
  | x c => exact h
/-- a new object -/
theorem Grow.new (g : GOk wd G H S) {p : Addr} {o : HO} (hp : H p = none) : Grow wd G H G (upd H p o) S := by
  have ne : ∀ a u, H a = some u → upd H p o a = some u := fun a u e => by rw [upd_ne (ne_of_none e hp)]; exact e
  refine ⟨⟨fun q hq => ?_, g.mF, fun a ha => ?_, g.townN, g.olen, fun k t og hk hs => ?_, g.nd1, g.nd2, g.ndt, ?_⟩, fun _ h => h, fun _ _ _ h => h, fun a u e _ => ne a u e, fun _ h => .inl h, fun a u e => ⟨u, ne a u e⟩, fun _ h => h, fun _ t h => ⟨t.2, h⟩⟩
  · refine g.fresh q ?_
    cases e : H q with
    | none => rfl
    | some u => rw [ne q u e] at hq; cases hq
  · obtain ⟨xs, e, l⟩ := g.town a ha
    exact ⟨xs, ne _ _ e, l⟩
  · obtain ⟨dx, vs, e1, e2, r⟩ := g.org k t og hk hs
    exact ⟨dx, vs, ne _ _ e1, ne _ _ e2, RpAll.move (fun a xs f r => f.elim) (fun a xs r => ne _ _ r) _ _ r⟩
  · rcases g.scr with ⟨ob, h⟩ | h
    · exact .inl ⟨ob, ne _ _ h⟩
    · exact .inr h
/-- a list that is nobody's but the frame's is changed -/
theorem GOk.updL {vs vs' : List V} {a : Addr} (g : GOk wd G H S) (h : H a = some (.lst vs)) (nm : ¬ G.M a) : GOk wd G (L2.upd H a (.lst vs')) S := by
  have ne : ∀ b o, H b = some o → b ≠ a → L2.upd H a (.lst vs') b = some o := fun b o e n => by rw [upd_ne n]; exact e
  have nM : ∀ b, G.M b → b ≠ a := fun b m z => nm (z ▸ m)
  have nT : ∀ b xs, H b = some (.tup xs) → L2.upd H a (.lst vs') b = some (.tup xs) := fun b xs e => ne b _ e (fun z => by rw [z, h] at e; cases e)
  refine ⟨fun p hp => g.fresh p ?_, g.mF, fun b hb => ?_, g.townN, g.olen, fun k t og h1 h2 => ?_, g.nd1, g.nd2, g.ndt, ?_⟩
  · by_cases z : p = a
    · rw [z, upd_same] at hp; cases hp
    · rw [upd_ne z] at hp; exact hp
  · obtain ⟨xs, e, l⟩ := g.town b hb
    exact ⟨xs, ne b _ e (nM b (.inl hb)), l⟩
  · obtain ⟨dx, ws, e1, e2, r⟩ := g.org k t og h1 h2
    have mt := List.mem_of_getElem? h1
    exact ⟨dx, ws, ne _ _ e1 (nM _ (.inr ⟨t, mt, .inl rfl⟩)), ne _ _ e2 (nM _ (.inr ⟨t, mt, .inr rfl⟩)), RpAll.move (fun _ _ f _ => f.elim) (fun b xs r => nT b xs r) _ _ r⟩
  · rcases g.scr with ⟨ob, e⟩ | e
    · exact .inl ⟨ob, ne _ _ e (fun z => by rw [z, h] at e; cases e)⟩
    · exact .inr e
/-- another set of lists that data may hold -/
theorem GOk.withF (g : GOk wd G H S) (F : Addr → Prop) (fr : ∀ p, H p = none → F p) (mF : ∀ a, G.M a → ¬ F a) : GOk wd { G with F := F } H S := ⟨fr, mF, g.town, g.townN, g.olen, g.org, g.nd1, g.nd2, g.ndt, g.scr⟩
end
/-- the cells hold -/
structure St0 (wd : Wd) (G : Gh) (σ : L2.St) (H : Hp) (δ : En) (S : Sto) : Prop where
  ok : GOk wd G H S
  at_ : ∀ (i : Nat) (x : U), δ[i]? = some (some (.u x)) → ∃ v, σ[i]? = some (some v) ∧ RpU wd G H v x
  len : δ.length ≤ σ.length
theorem St0.grow {wd : Wd} {G G' : Gh} {σ : L2.St} {H H' : Hp} {δ : En} {S S' : Sto} (s : St0 wd G σ H δ S) (gr : Grow wd G H G' H' S') : St0 wd G' σ H' δ S' :=
  ⟨gr.ok, fun i x e => by
    obtain ⟨v, e1, r⟩ := s.at_ i x e
    exact ⟨v, e1, gr.rpU s.ok r⟩, s.len⟩
/-! ### readings that keep to a semantic function -/
section
variable (wd : Wd) (W : WX)
def RdE (t : TE) (f : SemE) : Prop := ∀ (G : Gh) (σ : L2.St) (H : Hp) (δ : En) (S : Sto) (r : Except Nat U) (S' : Sto) (Q : VK), St0 wd G σ H δ S → f δ S = some (r, S') →
  (∀ u, r = .ok u → ∀ v G' H', Grow wd G H G' H' S' → RpU wd G' H' v u → Q v H') → (∀ c, r = .error c → ∀ G' H', Grow wd G H G' H' S' → W (.ref (wd.ca c)) none σ H') → t σ H Q
def RdT (t : TT) (f : SemT) : Prop := ∀ (G : Gh) (σ : L2.St) (H : Hp) (δ : En) (S : Sto) (r : Except Nat Bool) (S' : Sto) (Q : Bool → Hp → Prop), St0 wd G σ H δ S → f δ S = some (r, S') →
  (∀ b, r = .ok b → ∀ G' H', Grow wd G H G' H' S' → Q b H') → (∀ c, r = .error c → ∀ G' H', Grow wd G H G' H' S' → W (.ref (wd.ca c)) none σ H') → t σ H Q
def RpUs (G : Gh) (H : Hp) : List V → List U → Prop := Paired fun v u => RpU wd G H v u
def RdA (t : TA) (f : SemA) : Prop := ∀ (G : Gh) (σ : L2.St) (H : Hp) (δ : En) (S : Sto) (r : Except Nat (List U)) (S' : Sto) (Q : List V → Hp → Prop), St0 wd G σ H δ S → f δ S = some (r, S') →
  (∀ us, r = .ok us → ∀ vs G' H', Grow wd G H G' H' S' → RpUs wd G' H' vs us → Q vs H') → (∀ c, r = .error c → ∀ G' H', Grow wd G H G' H' S' → W (.ref (wd.ca c)) none σ H') → t σ H Q
/-- .. the value a new list -/
def RdF (t : TE) (f : SemE) : Prop := ∀ (G : Gh) (σ : L2.St) (H : Hp) (δ : En) (S : Sto) (r : Except Nat U) (S' : Sto) (Q : VK), St0 wd G σ H δ S → f δ S = some (r, S') →
  (∀ ds, r = .ok (.d (.list ds)) → ∀ p vs G' H', H p = none → G'.F p → Grow wd G H G' H' S' → H' p = some (.lst vs) → RpAll (fun a => G'.F a ∧ a ≠ p) H' vs ds → Q (.ref p) H') →
  (∀ c, r = .error c → ∀ G' H', Grow wd G H G' H' S' → W (.ref (wd.ca c)) none σ H') → t σ H Q
end
end DL
set_option maxHeartbeats 1000000
/-! The data layer: expressions. -/
namespace DL
open PySem L2
/-- what stands fixed through the law -/
structure Gb where
  wd : Wd
  P : Program
  w : World
  mg : Str → Option Value
  base : Heap
/-- a family of contexts with one wish -/
structure Fm (g : Gb) (W : WX) (k : Nat) {ι : Type} (Xf : ι → Cx) : Prop where
  prog : ∀ i, (Xf i).prog = g.P
  w : ∀ i, (Xf i).w = g.w
  K : ∀ i, (Xf i).K = g.wd.K
  mg : ∀ i, (Xf i).mg = g.mg
  base : ∀ i, (Xf i).base = g.base
  calm : ∀ i, (Xf i).calm = true
  room : ∀ i, Room k (Xf i).A
  takes : ∀ i, Takes (Xf i) W
  nd : ∀ i, (Xf i).N.Nodup
  pown : ∀ i, PassesOwn (model (Xf i).prog (Xf i).w) (Xf i).A (Xf i).env (Xf i).xe
section
variable (g : Gb) (W : WX) {ι : Type} (Xf : ι → Cx)
def SE (e : Expr) (f : SemE) : Prop := ∃ t, (∀ i, PE (Xf i) e t) ∧ RdE g.wd W t f
def SF (e : Expr) (f : SemE) : Prop := ∃ t, (∀ i, PE (Xf i) e t) ∧ RdF g.wd W t f
def ST (e : Expr) (f : SemT) : Prop := ∃ t, (∀ i, PT (Xf i) e t) ∧ RdT g.wd W t f
def SW (e : Expr) (f : SemT) : Prop := ∃ t, (∀ i, PW (Xf i) e t) ∧ RdT g.wd W t f
def SA (es : List Expr) (f : SemA) : Prop := ∃ t, (∀ i, PA (Xf i) es t) ∧ RdA g.wd W t f
end
section
variable {g : Gb} {W : WX} {ι : Type} {Xf : ι → Cx} {k : Nat}
theorem rdE_of_F {wd : Wd} {t : TE} {f : SemE} (h : RdF wd W t f) : RdE wd W t f := fun G σ H δ S r S' Q s0 e q1 q2 =>
  h G σ H δ S r S' Q s0 e (fun ds er p vs G' H' hp fp gr hl ra => q1 _ er (.ref p) G' H' gr (Rp.lst fp hl (RpAll.move (fun _ _ f r => ⟨f.1, r⟩) (fun _ _ r => r) _ _ ra))) q2
theorem SF.se {e : Expr} {f : SemE} (h : SF g W Xf e f) : SE g W Xf e f := by
  obtain ⟨t, h1, h2⟩ := h
  exact ⟨t, h1, rdE_of_F h2⟩
theorem SW.st {e : Expr} {f : SemT} (h : SW g W Xf e f) : ST g W Xf e f := by
  obtain ⟨t, h1, h2⟩ := h
  exact ⟨t, fun i => (h1 i).pt, h2⟩
theorem bnd_some {α β : Type} {r : Rs α} {f : α → Sto → Rs β} {z : Except Nat β} {S' : Sto} (h : bnd r f = some (z, S')) :
    (∃ a S1, r = some (.ok a, S1) ∧ f a S1 = some (z, S')) ∨ ∃ c, r = some (.error c, S') ∧ z = .error c := by
  cases r with
  | none => cases h
  | some p =>
    obtain ⟨x, S1⟩ := p
    cases x with
    | ok a => exact .inl ⟨a, S1, rfl, h⟩
    | error c =>
      cases h
      exact .inr ⟨c, rfl, rfl⟩
/-! ### names, constants -/
def eVar (i : Nat) : SemE := fun δ S => match δ[i]? with
  | some (some (.u x)) => some (.ok x, S)
  | _ => none
theorem se_var (i : Nat) {x : Str} {pos : Pos} (hN : ∀ j, (Xf j).N[i]? = some x := by intro _; rfl)
    (hv : ∀ j, Vis (Xf j).env.scope x := by first | exact fun _ => Or.inl rfl | exact fun _ => Or.inr (Or.inl rfl) | exact fun _ => Or.inr (Or.inr rfl)) (hd : (x == ("__debug__" : Str)) = false := by decide)
    (hcd : (x == ("__classdict__" : Str)) = false := by decide) : SE g W Xf (.Name x pos) (eVar i) := by
  refine ⟨_, fun j => pe_var (hN j) (hv j) hd hcd, fun G σ H δ S r S' Q s0 e q1 q2 => ?_⟩
  unfold eVar at e
  split at e
  · rename_i x hx
    cases e
    obtain ⟨v, hv, rv⟩ := s0.at_ i x hx
    exact ⟨v, hv, q1 x rfl v G H (Grow.refl s0.ok) rv⟩
  · cases e
def eC (x : PyData) : SemE := fun _ S => some (.ok (.d x), S)
theorem rdE_c {wd : Wd} {v : V} {x : PyData} (h : ∀ F H, Rp F H v x) : RdE wd W (tC v) (eC x) := fun G σ H δ S r S' Q s0 e q1 q2 => by
  unfold eC at e
  cases e
  exact q1 _ rfl v G H (Grow.refl s0.ok) (h _ _)
theorem se_int {i j pos} : SE g W Xf (.Constant (.int i) j pos) (eC (.int i)) := ⟨_, fun _ => pe_int, rdE_c fun _ _ => .int i⟩
theorem se_bl {b j pos} : SE g W Xf (.Constant (.bool b) j pos) (eC (.bool b)) := ⟨_, fun _ => pe_bl, rdE_c fun _ _ => .bl b⟩
theorem se_str {x j pos} : SE g W Xf (.Constant (.str x) j pos) (eC (.str x)) := ⟨_, fun _ => pe_str, rdE_c fun _ _ => .str x⟩
/-! ### argument lists, displays -/
def aNil : SemA := fun _ S => some (.ok [], S)
def aCons (f : SemE) (r : SemA) : SemA := fun δ S => bnd (f δ S) fun x S => bnd (r δ S) fun xs S => some (.ok (x :: xs), S)
theorem sa_nil : SA g W Xf [] aNil := ⟨_, fun _ => pa_nil, fun G σ H δ S r S' Q s0 e q1 q2 => by
  unfold aNil at e
  cases e
  exact q1 _ rfl [] G H (Grow.refl s0.ok) .nil⟩
theorem sa_cons {e : Expr} {es : List Expr} {f : SemE} {r : SemA} (h1 : SE g W Xf e f) (h2 : SA g W Xf es r) (hs : ∀ i, starEach (e :: es) (Xf i).env = (false, eval e (Xf i).env) :: starEach es (Xf i).env := by intro _; rfl) :
    SA g W Xf (e :: es) (aCons f r) := by
  obtain ⟨t, p1, q1⟩ := h1
  obtain ⟨u, p2, q2⟩ := h2
  refine ⟨tCons t u, fun i => pa_cons (p1 i) (p2 i) (hs i), fun G σ H δ S z S' Q s0 e k1 k2 => ?_⟩
  rcases bnd_some e with ⟨a, S1, ea, e2⟩ | ⟨c, ec, ez⟩
  · refine q1 G σ H δ S _ S1 _ s0 ea (fun x ex v G1 H1 gr1 rv => ?_) (fun c ec => nomatch ec)
    cases ex
    have s1 := s0.grow gr1
    rcases bnd_some e2 with ⟨as, S2, eas, e3⟩ | ⟨c, ec, ez⟩
    · cases e3
      refine q2 G1 σ H1 δ S1 _ _ _ s1 eas (fun xs exs vs G2 H2 gr2 rvs => ?_) (fun c ec => nomatch ec)
      cases exs
      exact k1 _ rfl (v :: vs) G2 H2 (gr1.trans gr2) (.cons (gr2.rpU s1.ok rv) rvs)
    · subst ez
      refine q2 G1 σ H1 δ S1 _ _ _ s1 ec (fun xs exs => nomatch exs) (fun c' ec' G2 H2 gr2 => ?_)
      cases ec'
      exact k2 c rfl G2 H2 (gr1.trans gr2)
  · subst ez
    refine q1 G σ H δ S _ S' _ s0 ec (fun xs exs => nomatch exs) (fun c' ec' G2 H2 gr2 => ?_)
    cases ec'
    exact k2 c rfl G2 H2 gr2
def allD : List U → Option (List PyData)
  | [] => some []
  | .d x :: r => match allD r with
    | some xs => some (x :: xs)
    | none => none
  | _ :: _ => none
theorem allD_rp {wd : Wd} {G : Gh} {H : Hp} : ∀ {vs : List V} {us : List U} {ds : List PyData}, RpUs wd G H vs us → allD us = some ds → RpAll G.F H vs ds
  | _, _, _, .nil, e => by
    cases e
    exact .nil
  | _, u :: us, ds, .cons h t, e => by
    cases u with
    | d x =>
      unfold allD at e
      split at e
      · rename_i xs hx
        cases e
        exact .cons h (allD_rp t hx)
      · cases e
    | sc => cases e
    | tw => cases e
    | o k => cases e
    | x c => cases e
def eTup (a : SemA) : SemE := fun δ S => bnd (a δ S) fun us S => match allD us with
  | some ds => if ds.length ≤ 1000 then some (.ok (.d (.tuple ds)), S) else none
  | none => none
def eLst (a : SemA) : SemE := fun δ S => bnd (a δ S) fun us S => match allD us with
  | some ds => if ds.length ≤ 1000 then some (.ok (.d (.list ds)), S) else none
  | none => none
theorem sz1000 {n : Nat} (h : n ≤ 1000) : n ≤ sizeLine := Nat.le_trans h (by decide)
theorem se_tup {es : List Expr} {f : SemA} {x1 pos} (h : SA g W Xf es f) : SE g W Xf (.Tuple es x1 pos) (eTup f) := by
  obtain ⟨t, p1, q1⟩ := h
  refine ⟨tTup t, fun i => pe_tup (p1 i), fun G σ H δ S z S' Q s0 e k1 k2 => ?_⟩
  rcases bnd_some e with ⟨us, S1, ea, e2⟩ | ⟨c, ec, ez⟩
  · split at e2
    · rename_i ds hds
      split at e2
      · rename_i hl
        cases e2
        refine q1 G σ H δ S _ _ _ s0 ea (fun x ex vs G1 H1 gr1 rv => ?_) (fun c ec => nomatch ec)
        cases ex
        have ra := allD_rp rv hds
        refine ⟨sz1000 (by rw [ra.length]; exact hl), fun p hp => ?_⟩
        have gr2 := Grow.new (o := .tup vs) gr1.ok hp
        exact k1 _ rfl (.ref p) G1 _ (gr1.trans gr2) (.tup upd_same (gr2.rpAll gr1.ok ra))
      · cases e2
    · cases e2
  · subst ez
    refine q1 G σ H δ S _ S' _ s0 ec (fun xs exs => nomatch exs) (fun c' ec' G2 H2 gr2 => ?_)
    cases ec'
    exact k2 c rfl G2 H2 gr2
/-- a new list laid -/
theorem new_lst {wd : Wd} {G : Gh} {H : Hp} {S : Sto} {vs : List V} {ds : List PyData} {p : Addr} (ok : GOk wd G H S) (hp : H p = none) (ra : RpAll G.F H vs ds) : RpAll (fun a => G.F a ∧ a ≠ p) (upd H p (.lst vs)) vs ds :=
  RpAll.move (fun a xs f r => ⟨⟨f, ne_of_none r hp⟩, by rw [upd_ne (ne_of_none r hp)]; exact r⟩) (fun a xs r => by rw [upd_ne (ne_of_none r hp)]; exact r) _ _ ra
theorem sf_lst {es : List Expr} {f : SemA} {pos} (h : SA g W Xf es f) : SF g W Xf (.List es pos) (eLst f) := by
  obtain ⟨t, p1, q1⟩ := h
  refine ⟨tLst t, fun i => pe_lst (p1 i), fun G σ H δ S z S' Q s0 e k1 k2 => ?_⟩
  rcases bnd_some e with ⟨us, S1, ea, e2⟩ | ⟨c, ec, ez⟩
  · split at e2
    · rename_i ds hds
      split at e2
      · rename_i hl
        cases e2
        refine q1 G σ H δ S _ _ _ s0 ea (fun x ex vs G1 H1 gr1 rv => ?_) (fun c ec => nomatch ec)
        cases ex
        have ra := allD_rp rv hds
        refine ⟨sz1000 (by rw [ra.length]; exact hl), fun p hp => ?_⟩
        have gr2 := Grow.new (o := .lst vs) gr1.ok hp
        exact k1 ds rfl p vs G1 _ (gr1.none_of hp) (gr1.ok.fresh p hp) (gr1.trans gr2) upd_same (new_lst gr1.ok hp ra)
      · cases e2
    · cases e2
  · subst ez
    refine q1 G σ H δ S _ S' _ s0 ec (fun xs exs => nomatch exs) (fun c' ec' G2 H2 gr2 => ?_)
    cases ec'
    exact k2 c rfl G2 H2 gr2
/-! ### operators -/
def RdO (wd : Wd) (r : R2) (op : U → U → Option U) : Prop := ∀ (G : Gh) (H : Hp) (S : Sto) (x y : V) (u w z : U) (Q : VK), GOk wd G H S → RpU wd G H x u → RpU wd G H y w → op u w = some z →
  (∀ v G' H', Grow wd G H G' H' S → RpU wd G' H' v z → Q v H') → r x y H Q
def eOp (op : U → U → Option U) (f h : SemE) : SemE := fun δ S => bnd (f δ S) fun x S => bnd (h δ S) fun y S => match op x y with
  | some z => some (.ok z, S)
  | none => none
theorem rd_op {wd : Wd} {r : R2} {op : U → U → Option U} {ta tb : TE} {f h : SemE} (ho : RdO wd r op) (ha : RdE wd W ta f) (hb : RdE wd W tb h) : RdE wd W (tOp r ta tb) (eOp op f h) := fun G σ H δ S z S' Q s0 e k1 k2 => by
  rcases bnd_some e with ⟨a, S1, ea, e2⟩ | ⟨c, ec, ez⟩
  · refine ha G σ H δ S _ S1 _ s0 ea (fun x ex v G1 H1 gr1 rv => ?_) (fun c ec => nomatch ec)
    cases ex
    have s1 := s0.grow gr1
    rcases bnd_some e2 with ⟨b, S2, eb, e3⟩ | ⟨c, ec, ez⟩
    · refine hb G1 σ H1 δ S1 _ S2 _ s1 eb (fun y ey w G2 H2 gr2 rw' => ?_) (fun c ec => nomatch ec)
      cases ey
      split at e3
      · rename_i zz hz
        cases e3
        refine ho G2 H2 _ v w a b zz Q gr2.ok (gr2.rpU s1.ok rv) rw' hz fun v' G3 H3 gr3 r3 => ?_
        exact k1 _ rfl v' G3 H3 ((gr1.trans gr2).trans gr3) r3
      · cases e3
    · subst ez
      refine hb G1 σ H1 δ S1 _ _ _ s1 ec (fun xs exs => nomatch exs) (fun c' ec' G2 H2 gr2 => ?_)
      cases ec'
      exact k2 c rfl G2 H2 (gr1.trans gr2)
  · subst ez
    refine ha G σ H δ S _ S' _ s0 ec (fun xs exs => nomatch exs) (fun c' ec' G2 H2 gr2 => ?_)
    cases ec'
    exact k2 c rfl G2 H2 gr2
/-- an operator's rule, in every context of the family, and what it computes -/
def OpOk (g : Gb) {ι : Type} (Xf : ι → Cx) (f : Value → Value → Sem Value) (op : U → U → Option U) : Prop := ∃ r, (∀ i, OpR (Xf i) f r) ∧ RdO g.wd r op
theorem se_bin {a b : Expr} {op : Operator} {o : U → U → Option U} {f h : SemE} {pos : Pos} (ho : OpOk g Xf (binaryOp op) o) (ha : SE g W Xf a f) (hb : SE g W Xf b h) : SE g W Xf (.BinOp a op b pos) (eOp o f h) := by
  obtain ⟨r, o1, o2⟩ := ho
  obtain ⟨t, p1, q1⟩ := ha
  obtain ⟨u, p2, q2⟩ := hb
  exact ⟨tOp r t u, fun i => pe_op (o1 i) (p1 i) (p2 i), rd_op o2 q1 q2⟩
theorem se_cmp {a b : Expr} {op : CmpOp} {o : U → U → Option U} {f h : SemE} {pos : Pos} (ho : OpOk g Xf (compareOp op) o) (ha : SE g W Xf a f) (hb : SE g W Xf b h) (hm : behindInMarks op b = false := by first | exact nomark _ | with_unfolding_all rfl) : SE g W Xf (.Compare a [op] [b] pos) (eOp o f h) := by
  obtain ⟨r, o1, o2⟩ := ho
  obtain ⟨t, p1, q1⟩ := ha
  obtain ⟨u, p2, q2⟩ := hb
  exact ⟨tOp r t u, fun i => pe_cmpR (o1 i) (p1 i) (p2 i) hm, rd_op o2 q1 q2⟩
/-- a value that is a bool, as a test -/
def tOf (f : SemE) : SemT := fun δ S => bnd (f δ S) fun x S => match x with
  | .d (.bool b) => some (.ok b, S)
  | _ => none
theorem rd_tOf {wd : Wd} {t : TE} {f : SemE} (h : RdE wd W t f) {tt : TT} (ht : tt = fun σ H Q => t σ H fun x H1 => ∃ c, x = .bl c ∧ Q c H1) : RdT wd W tt (tOf f) := fun G σ H δ S z S' Q s0 e k1 k2 => by
  subst ht
  rcases bnd_some e with ⟨a, S1, ea, e2⟩ | ⟨c, ec, ez⟩
  · refine h G σ H δ S _ S1 _ s0 ea (fun x ex v G1 H1 gr1 rv => ?_) (fun c ec => nomatch ec)
    cases ex
    split at e2
    · cases e2
      cases rv
      exact ⟨_, rfl, k1 _ rfl G1 H1 gr1⟩
    · cases e2
  · subst ez
    refine h G σ H δ S _ S' _ s0 ec (fun xs exs => nomatch exs) (fun c' ec' G2 H2 gr2 => ?_)
    cases ec'
    exact k2 c rfl G2 H2 gr2
theorem st_val {e : Expr} {f : SemE} (h : SE g W Xf e f) (he : ∀ i whole, isTrue e (Xf i).env whole = (do let v ← whole; standAt e.pos; holding [v] (truthy v)) := by intro _ _; rfl) : ST g W Xf e (tOf f) := by
  obtain ⟨t, p1, q1⟩ := h
  exact ⟨tB t, fun i => pt_val (p1 i) (he i), rd_tOf q1 rfl⟩
theorem st_cmp {a b : Expr} {op : CmpOp} {o : U → U → Option U} {f h : SemE} {pos : Pos} (ho : OpOk g Xf (compareOp op) o) (ha : SE g W Xf a f) (hb : SE g W Xf b h) (hm : behindInMarks op b = false := by first | exact nomark _ | with_unfolding_all rfl) : ST g W Xf (.Compare a [op] [b] pos) (tOf (eOp o f h)) := by
  obtain ⟨r, o1, o2⟩ := ho
  obtain ⟨t, p1, q1⟩ := ha
  obtain ⟨u, p2, q2⟩ := hb
  exact ⟨tTest (tOp r t u), fun i => pt_cmpR (o1 i) (p1 i) (p2 i) hm, rd_tOf (rd_op o2 q1 q2) rfl⟩
/-- a op b op' c -/
def eChain (o o' : U → U → Option U) (f h l : SemE) : SemE := fun δ S => bnd (f δ S) fun x S => bnd (h δ S) fun y S => match o x y with
  | some (.d (.bool true)) => bnd (l δ S) fun z S => (match o' y z with
    | some z => some (.ok z, S)
    | none => none)
  | some (.d (.bool false)) => some (.ok (.d (.bool false)), S)
  | _ => none
theorem rd_chain {wd : Wd} {r r' : R2} {o o' : U → U → Option U} {ta tb tc : TE} {f h l : SemE} (ho : RdO wd r o) (ho' : RdO wd r' o') (ha : RdE wd W ta f) (hb : RdE wd W tb h) (hc : RdE wd W tc l) : RdE wd W (tChain r r' ta tb tc) (eChain o o' f h l) := fun G σ H δ S z S' Q s0 e k1 k2 => by
  rcases bnd_some e with ⟨a, S1, ea, e2⟩ | ⟨c, ec, ez⟩
  · refine ha G σ H δ S _ S1 _ s0 ea (fun x ex v G1 H1 gr1 rv => ?_) (fun c ec => nomatch ec)
    cases ex
    have s1 := s0.grow gr1
    rcases bnd_some e2 with ⟨b, S2, eb, e3⟩ | ⟨c, ec, ez⟩
    · refine hb G1 σ H1 δ S1 _ S2 _ s1 eb (fun y ey w G2 H2 gr2 rw' => ?_) (fun c ec => nomatch ec)
      cases ey
      have s2 := s1.grow gr2
      split at e3
      · rename_i hz
        refine ho G2 H2 _ v w a b _ _ gr2.ok (gr2.rpU s1.ok rv) rw' hz fun v' G3 H3 gr3 r3 => ?_
        cases r3
        have s3 := s2.grow gr3
        refine ⟨true, rfl, ?_⟩
        rw [if_pos rfl]
        rcases bnd_some e3 with ⟨cv, S3, ecv, e4⟩ | ⟨c, ec, ez⟩
        · refine hc G3 σ H3 δ S2 _ S3 _ s3 ecv (fun y ey w2 G4 H4 gr4 r4 => ?_) (fun c ec => nomatch ec)
          cases ey
          split at e4
          · rename_i zz hzz
            cases e4
            refine ho' G4 H4 _ w w2 b cv zz Q gr4.ok (gr4.rpU s3.ok (gr3.rpU s2.ok rw')) r4 hzz fun v5 G5 H5 gr5 r5 => ?_
            exact k1 _ rfl v5 G5 H5 ((((gr1.trans gr2).trans gr3).trans gr4).trans gr5) r5
          · cases e4
        · subst ez
          refine hc G3 σ H3 δ S2 _ _ _ s3 ec (fun xs exs => nomatch exs) (fun c' ec' G4 H4 gr4 => ?_)
          cases ec'
          exact k2 c rfl G4 H4 (((gr1.trans gr2).trans gr3).trans gr4)
      · rename_i hz
        cases e3
        refine ho G2 H2 _ v w a b _ _ gr2.ok (gr2.rpU s1.ok rv) rw' hz fun v' G3 H3 gr3 r3 => ?_
        cases r3
        refine ⟨false, rfl, ?_⟩
        rw [if_neg Bool.false_ne_true]
        exact k1 _ rfl _ G3 H3 ((gr1.trans gr2).trans gr3) (.bl false)
      · cases e3
    · subst ez
      refine hb G1 σ H1 δ S1 _ _ _ s1 ec (fun xs exs => nomatch exs) (fun c' ec' G2 H2 gr2 => ?_)
      cases ec'
      exact k2 c rfl G2 H2 (gr1.trans gr2)
  · subst ez
    refine ha G σ H δ S _ S' _ s0 ec (fun xs exs => nomatch exs) (fun c' ec' G2 H2 gr2 => ?_)
    cases ec'
    exact k2 c rfl G2 H2 gr2
theorem se_chain {a b c : Expr} {op op' : CmpOp} {o o' : U → U → Option U} {f h l : SemE} {pos : Pos} (ho : OpOk g Xf (compareOp op) o) (ho' : OpOk g Xf (compareOp op') o') (ha : SE g W Xf a f) (hb : SE g W Xf b h) (hc : SE g W Xf c l)
    (hm : lastMarks [op, op'] [b, c] = false := by with_unfolding_all rfl) : SE g W Xf (.Compare a [op, op'] [b, c] pos) (eChain o o' f h l) := by
  obtain ⟨r, o1, o2⟩ := ho
  obtain ⟨r', o1', o2'⟩ := ho'
  obtain ⟨t, p1, q1⟩ := ha
  obtain ⟨u, p2, q2⟩ := hb
  obtain ⟨v, p3, q3⟩ := hc
  exact ⟨tChain r r' t u v, fun i => pe_chain (o1 i) (o1' i) (p1 i) (p2 i) (p3 i) hm, rd_chain o2 o2' q1 q2 q3⟩
/-! ### and, or, not, if-else -/
def eAnd (f h : SemE) : SemE := fun δ S => bnd (f δ S) fun x S => match x with
  | .d (.bool true) => h δ S
  | .d (.bool false) => some (.ok (.d (.bool false)), S)
  | _ => none
def eOr (f h : SemE) : SemE := fun δ S => bnd (f δ S) fun x S => match x with
  | .d (.bool true) => some (.ok (.d (.bool true)), S)
  | .d (.bool false) => h δ S
  | _ => none
def eNot (f : SemE) : SemE := fun δ S => bnd (f δ S) fun x S => match x with
  | .d (.bool b) => some (.ok (.d (.bool (!b))), S)
  | _ => none
def eIf (c : SemT) (f h : SemE) : SemE := fun δ S => bnd (c δ S) fun b S => if b = true then f δ S else h δ S
def tAndS (f h : SemT) : SemT := fun δ S => bnd (f δ S) fun b S => if b = true then h δ S else some (.ok false, S)
def tOrS (f h : SemT) : SemT := fun δ S => bnd (f δ S) fun b S => if b = true then some (.ok true, S) else h δ S
def tNotS (f : SemT) : SemT := fun δ S => bnd (f δ S) fun b S => some (.ok (!b), S)
theorem rd_andV {wd : Wd} {ta tb : TE} {f h : SemE} (ha : RdE wd W ta f) (hb : RdE wd W tb h) : RdE wd W (tAndV ta tb) (eAnd f h) := fun G σ H δ S z S' Q s0 e k1 k2 => by
  rcases bnd_some e with ⟨a, S1, ea, e2⟩ | ⟨c, ec, ez⟩
  · refine ha G σ H δ S _ S1 _ s0 ea (fun x ex v G1 H1 gr1 rv => ?_) (fun c ec => nomatch ec)
    cases ex
    split at e2
    · cases rv
      refine ⟨true, rfl, ?_⟩
      rw [if_pos rfl]
      exact hb G1 σ H1 δ S1 z S' Q (s0.grow gr1) e2 (fun u eu v G2 H2 gr2 r2 => k1 u eu v G2 H2 (gr1.trans gr2) r2) (fun c ec G2 H2 gr2 => k2 c ec G2 H2 (gr1.trans gr2))
    · cases e2
      cases rv
      refine ⟨false, rfl, ?_⟩
      rw [if_neg Bool.false_ne_true]
      exact k1 _ rfl _ G1 H1 gr1 (.bl false)
    · cases e2
  · subst ez
    refine ha G σ H δ S _ S' _ s0 ec (fun xs exs => nomatch exs) (fun c' ec' G2 H2 gr2 => ?_)
    cases ec'
    exact k2 c rfl G2 H2 gr2
theorem rd_notV {wd : Wd} {ta : TE} {f : SemE} (ha : RdE wd W ta f) : RdE wd W (tNotV ta) (eNot f) := fun G σ H δ S z S' Q s0 e k1 k2 => by
  rcases bnd_some e with ⟨a, S1, ea, e2⟩ | ⟨c, ec, ez⟩
  · refine ha G σ H δ S _ S1 _ s0 ea (fun x ex v G1 H1 gr1 rv => ?_) (fun c ec => nomatch ec)
    cases ex
    split at e2
    · cases e2
      cases rv
      exact ⟨_, rfl, k1 _ rfl _ G1 H1 gr1 (.bl _)⟩
    · cases e2
  · subst ez
    refine ha G σ H δ S _ S' _ s0 ec (fun xs exs => nomatch exs) (fun c' ec' G2 H2 gr2 => ?_)
    cases ec'
    exact k2 c rfl G2 H2 gr2
theorem se_one {a : Expr} {op : BoolOp} {f : SemE} {pos : Pos} (h : SE g W Xf a f) : SE g W Xf (.BoolOp op [a] pos) f := by
  obtain ⟨t, p1, q1⟩ := h
  exact ⟨t, fun i => pe_one (p1 i), q1⟩
theorem se_and {a b : Expr} {rest : List Expr} {f h : SemE} {pos : Pos} (ha : SE g W Xf a f) (hb : SE g W Xf (.BoolOp .And (b :: rest) pos) h) : SE g W Xf (.BoolOp .And (a :: b :: rest) pos) (eAnd f h) := by
  obtain ⟨t, p1, q1⟩ := ha
  obtain ⟨u, p2, q2⟩ := hb
  exact ⟨_, fun i => pe_and (p1 i) (p2 i), rd_andV q1 q2⟩
theorem se_not {a : Expr} {f : SemE} {pos : Pos} (ha : SE g W Xf a f) : SE g W Xf (.UnaryOp .Not a pos) (eNot f) := by
  obtain ⟨t, p1, q1⟩ := ha
  exact ⟨_, fun i => pe_not (p1 i), rd_notV q1⟩
theorem rdT_or {wd : Wd} {ta tb : TT} {f h : SemT} (ha : RdT wd W ta f) (hb : RdT wd W tb h) : RdT wd W (tOr ta tb) (tOrS f h) := fun G σ H δ S z S' Q s0 e k1 k2 => by
  rcases bnd_some e with ⟨b, S1, ea, e2⟩ | ⟨c, ec, ez⟩
  · refine ha G σ H δ S _ S1 _ s0 ea (fun x ex G1 H1 gr1 => ?_) (fun c ec => nomatch ec)
    cases ex
    cases b with
    | true =>
      rw [if_pos rfl] at e2 ⊢
      cases e2
      exact k1 _ rfl G1 H1 gr1
    | false =>
      rw [if_neg Bool.false_ne_true] at e2 ⊢
      exact hb G1 σ H1 δ S1 z S' Q (s0.grow gr1) e2 (fun u eu G2 H2 gr2 => k1 u eu G2 H2 (gr1.trans gr2)) (fun c ec G2 H2 gr2 => k2 c ec G2 H2 (gr1.trans gr2))
  · subst ez
    refine ha G σ H δ S _ S' _ s0 ec (fun xs exs => nomatch exs) (fun c' ec' G2 H2 gr2 => ?_)
    cases ec'
    exact k2 c rfl G2 H2 gr2
theorem rdT_not {wd : Wd} {ta : TT} {f : SemT} (ha : RdT wd W ta f) : RdT wd W (tNot ta) (tNotS f) := fun G σ H δ S z S' Q s0 e k1 k2 => by
  rcases bnd_some e with ⟨b, S1, ea, e2⟩ | ⟨c, ec, ez⟩
  · cases e2
    refine ha G σ H δ S _ _ _ s0 ea (fun x ex G1 H1 gr1 => ?_) (fun c ec => nomatch ec)
    cases ex
    exact k1 _ rfl G1 H1 gr1
  · subst ez
    refine ha G σ H δ S _ S' _ s0 ec (fun xs exs => nomatch exs) (fun c' ec' G2 H2 gr2 => ?_)
    cases ec'
    exact k2 c rfl G2 H2 gr2
theorem sw_or1 {a : Expr} {f : SemT} {pos : Pos} (h : ST g W Xf a f) : SW g W Xf (.BoolOp .Or [a] pos) f := by
  obtain ⟨t, p1, q1⟩ := h
  exact ⟨t, fun i => pw_or1 (p1 i), q1⟩
theorem sw_or {a b : Expr} {rest : List Expr} {f h : SemT} {pos : Pos} (ha : ST g W Xf a f) (hb : SW g W Xf (.BoolOp .Or (b :: rest) pos) h) : SW g W Xf (.BoolOp .Or (a :: b :: rest) pos) (tOrS f h) := by
  obtain ⟨t, p1, q1⟩ := ha
  obtain ⟨u, p2, q2⟩ := hb
  exact ⟨_, fun i => pw_or (p1 i) (p2 i), rdT_or q1 q2⟩
theorem st_not {a : Expr} {f : SemT} {pos : Pos} (ha : ST g W Xf a f) : ST g W Xf (.UnaryOp .Not a pos) (tNotS f) := by
  obtain ⟨t, p1, q1⟩ := ha
  exact ⟨_, fun i => pt_not (p1 i), rdT_not q1⟩
end
end DL
set_option maxHeartbeats 1000000
/-! The data layer: operators. -/
namespace DL
open PySem L2 PySem.W PySem.SeqAt
mutual
theorem dp_plain {K : PySem.W.Frag} {H : Hp} : ∀ (d : PyData) (v : V), Dp K H v d → d.plain = true
  | .none, _, _ => by rw [PyData.plain]
  | .bool _, _, _ => by rw [PyData.plain]
  | .int _, _, _ => by rw [PyData.plain]
  | .str _, _, _ => by rw [PyData.plain]
  | .list ds, _, h => by
    cases h with
    | lst _ ha =>
      rw [PyData.plain]
      exact dpAll_plain ds _ ha
  | .tuple ds, _, h => by
    cases h with
    | tup _ ha =>
      rw [PyData.plain]
      exact dpAll_plain ds _ ha
  | .dict _, _, h => by cases h
theorem dpAll_plain {K : PySem.W.Frag} {H : Hp} : ∀ (ds : List PyData) (vs : List V), DpAll K H vs ds → PyData.plainAll ds = true
  | [], _, _ => by rw [PyData.plainAll]
  | d :: ds, _, h => by
    cases h with
    | cons h1 h2 =>
      rw [PyData.plainAll, dp_plain d _ h1, dpAll_plain ds _ h2]
      rfl
end
/-- comparisons of data -/
def rD2 (K : PySem.W.Frag) (p : PyData → PyData → Option Bool) : R2 := fun x y H Q => ∃ d e b, Dp K H x d ∧ Dp K H y e ∧ p d e = some b ∧ Q (.bl b) H
def cD (p : PyData → PyData → Option Bool) : U → U → Option U
  | .d x, .d y => match p x y with
    | some b => some (.d (.bool b))
    | none => none
  | _, _ => none
theorem rdO_cD {wd : Wd} (p : PyData → PyData → Option Bool) : RdO wd (rD2 wd.K p) (cD p) := fun G H S x y u w z Q ok rx ry e k => by
  unfold cD at e
  split at e
  · split at e
    · rename_i b hb
      cases e
      exact ⟨_, _, b, Rp.dp _ _ _ rx, Rp.dp _ _ _ ry, hb, k _ G H (Grow.refl ok) (.bl b)⟩
    · cases e
  · cases e
def dOk (d : PyData) : Bool := decide (d.depth ≤ 100)
def eqP (d e : PyData) : Option Bool := if (dOk d || dOk e) = true then some (PyData.eqv d e) else none
def neP (d e : PyData) : Option Bool := if (dOk d || dOk e) = true then some (!PyData.eqv d e) else none
def isNon : PyData → Bool
  | .none => true
  | _ => false
def ltP : PyData → PyData → Option Bool
  | .int a, .int b => some (decide (a < b))
  | d, e => if (alike d e && !isNon d && dOk d) = true then some (dataLt d e) else none
def gtP : PyData → PyData → Option Bool
  | .int a, .int b => some (decide (b < a))
  | d, e => if (alike d e && !isNon d && dOk d) = true then some (dataLt e d) else none
def leP : PyData → PyData → Option Bool
  | .int a, .int b => some (decide (a ≤ b))
  | d, e => if (alike d e && !isNon d && dOk d) = true then some (!dataLt e d) else none
def inP : PyData → PyData → Option Bool
  | d, .list xs => if dOk d = true then some (xs.any fun y => PyData.eqv y d) else none
  | d, .tuple xs => if dOk d = true then some (xs.any fun y => PyData.eqv y d) else none
  | .str a, .str b => some (!(Builtin.Str.occurrences b a 0 b.length 1).isEmpty)
  | _, _ => none
def notInP : PyData → PyData → Option Bool
  | d, .list xs => if dOk d = true then some (!xs.any fun y => PyData.eqv y d) else none
  | d, .tuple xs => if dOk d = true then some (!xs.any fun y => PyData.eqv y d) else none
  | .str a, .str b => some (!(!(Builtin.Str.occurrences b a 0 b.length 1).isEmpty))
  | _, _ => none
def isNotP : PyData → PyData → Option Bool
  | d, .none => some (!isNon d)
  | .bool a, .bool b => some (!decide (a = b))
  | _, _ => none
section
variable {X : Cx} {k : Nat}
theorem ok2 {d e : PyData} (h : (dOk d || dOk e) = true) : min d.depth e.depth ≤ 100 := by
  rcases (Bool.or_eq_true _ _).mp h with h | h
  · exact Nat.le_trans (Nat.min_le_left _ _) (of_decide_eq_true h)
  · exact Nat.le_trans (Nat.min_le_right _ _) (of_decide_eq_true h)
theorem ok1 {d e : PyData} (h : dOk d = true) : min d.depth e.depth ≤ 100 := Nat.le_trans (Nat.min_le_left _ _) (of_decide_eq_true h)
theorem opr_eq (hr : Room k X.A) : OpR X (compareOp .Eq) (rD2 X.K eqP) := by
  intro pins s σ H x y v u Q I rx ry h
  obtain ⟨d, e, b, hd, he, hb, q⟩ := h
  obtain ⟨as, r1⟩ := Dp.reads I d x v hd rx
  obtain ⟨bs, r2⟩ := Dp.reads I e y u he ry
  unfold eqP at hb
  split at hb
  · rename_i hc
    cases hb
    exact eq_plain r1 r2 (dp_plain _ _ hd) (dp_plain _ _ he) (by have := ok2 hc; have := hr.un; omega) ⟨.bl _, H, I, rfl, q⟩
  · cases hb
theorem opr_neW (hr : X.A.units + 16 * k + 200 < cLine) : OpR X (compareOp .NotEq) (rD2 X.K neP) := by
  intro pins s σ H x y v u Q I rx ry h
  obtain ⟨d, e, b, hd, he, hb, q⟩ := h
  obtain ⟨as, r1⟩ := Dp.reads I d x v hd rx
  obtain ⟨bs, r2⟩ := Dp.reads I e y u he ry
  unfold neP at hb
  split at hb
  · rename_i hc
    cases hb
    exact ne_plain r1 r2 (dp_plain _ _ hd) (dp_plain _ _ he) (by have := ok2 hc; omega) ⟨.bl _, H, I, rfl, q⟩
  · cases hb
theorem opr_ne (hr : Room k X.A) : OpR X (compareOp .NotEq) (rD2 X.K neP) := opr_neW hr.un
theorem cond3 {d e : PyData} (h : (alike d e && !isNon d && dOk d) = true) : alike d e = true ∧ d ≠ .none ∧ dOk d = true := by
  rw [Bool.and_eq_true, Bool.and_eq_true] at h
  refine ⟨h.1.1, fun z => ?_, h.2⟩
  subst z
  exact absurd h.1.2 (by decide)
theorem opr_lt (hr : Room k X.A) : OpR X (compareOp .Lt) (rD2 X.K ltP) := by
  intro pins s σ H x y v u Q I rx ry h
  obtain ⟨d, e, b, hd, he, hb, q⟩ := h
  obtain ⟨as, r1⟩ := Dp.reads I d x v hd rx
  obtain ⟨bs, r2⟩ := Dp.reads I e y u he ry
  unfold ltP at hb
  split at hb
  · rename_i a c
    cases hb
    refine lt_data r1 r2 (by rw [alike]) (by intro z; cases z) (by have := hr.un; have e1 : (PyData.int a).depth = 0 := by rw [PyData.depth]
                                                                   rw [e1]; omega) ⟨.bl _, H, I, ?_, q⟩
    rw [dataLt_int]; exact rfl
  · split at hb
    · rename_i hc
      obtain ⟨h1, h2, h3⟩ := cond3 hc
      cases hb
      exact lt_data r1 r2 h1 h2 (by have := ok1 (e := e) h3; have := hr.un; omega) ⟨.bl _, H, I, rfl, q⟩
    · cases hb
theorem opr_gt (hr : Room k X.A) : OpR X (compareOp .Gt) (rD2 X.K gtP) := by
  intro pins s σ H x y v u Q I rx ry h
  obtain ⟨d, e, b, hd, he, hb, q⟩ := h
  obtain ⟨as, r1⟩ := Dp.reads I d x v hd rx
  obtain ⟨bs, r2⟩ := Dp.reads I e y u he ry
  unfold gtP at hb
  split at hb
  · rename_i a c
    cases hb
    refine gt_data r1 r2 (by rw [alike]) (by intro z; cases z) (by have := hr.un; have e1 : (PyData.int a).depth = 0 := by rw [PyData.depth]
                                                                   rw [e1]; omega) ⟨.bl _, H, I, ?_, q⟩
    rw [dataLt_int]; exact rfl
  · split at hb
    · rename_i hc
      obtain ⟨h1, h2, h3⟩ := cond3 hc
      cases hb
      exact gt_data r1 r2 h1 h2 (by have := ok1 (e := e) h3; have := hr.un; omega) ⟨.bl _, H, I, rfl, q⟩
    · cases hb
theorem opr_le (hr : Room k X.A) : OpR X (compareOp .LtE) (rD2 X.K leP) := by
  intro pins s σ H x y v u Q I rx ry h
  obtain ⟨d, e, b, hd, he, hb, q⟩ := h
  obtain ⟨as, r1⟩ := Dp.reads I d x v hd rx
  obtain ⟨bs, r2⟩ := Dp.reads I e y u he ry
  unfold leP at hb
  split at hb
  · rename_i a c
    cases hb
    refine le_data r1 r2 (by rw [alike]) (by intro z; cases z) (by have := hr.un; have e1 : (PyData.int a).depth = 0 := by rw [PyData.depth]
                                                                   rw [e1]; omega) ⟨.bl _, H, I, ?_, q⟩
    rw [dataLt_int, cmp_not_lt]; exact rfl
  · split at hb
    · rename_i hc
      obtain ⟨h1, h2, h3⟩ := cond3 hc
      cases hb
      exact le_data r1 r2 h1 h2 (by have := ok1 (e := e) h3; have := hr.un; omega) ⟨.bl _, H, I, rfl, q⟩
    · cases hb
theorem opr_in (hr : Room k X.A) : OpR X (compareOp .In) (rD2 X.K inP) := by
  intro pins s σ H x y v u Q I rx ry h
  obtain ⟨d, e, b, hd, he, hb, q⟩ := h
  obtain ⟨as, r1⟩ := Dp.reads I d x v hd rx
  obtain ⟨bs, r2⟩ := Dp.reads I e y u he ry
  unfold inP at hb
  split at hb
  · rename_i xs
    split at hb
    · rename_i hc
      cases hb
      have hp := dp_plain _ _ he
      rw [PyData.plain] at hp
      have hz : d.depth ≤ 100 := of_decide_eq_true hc
      exact in_list_data r2 r1 hp (dp_plain _ _ hd) (by have := Nat.min_le_right (PyData.depthAll xs) d.depth; have := hr.un; omega) ⟨.bl _, H, I, rfl, q⟩
    · cases hb
  · rename_i xs
    split at hb
    · rename_i hc
      cases hb
      have hp := dp_plain _ _ he
      rw [PyData.plain] at hp
      have hz : d.depth ≤ 100 := of_decide_eq_true hc
      exact in_tuple_data r2 r1 hp (dp_plain _ _ hd) (by have := Nat.min_le_right (PyData.depthAll xs) d.depth; have := hr.un; omega) ⟨.bl _, H, I, rfl, q⟩
    · cases hb
  · cases hb
    cases hd
    cases he
    exact op_in_str pins s σ H _ _ v u Q I rx ry ⟨_, _, rfl, rfl, q⟩
  · cases hb
theorem opr_notIn (hr : Room k X.A) : OpR X (compareOp .NotIn) (rD2 X.K notInP) := by
  intro pins s σ H x y v u Q I rx ry h
  obtain ⟨d, e, b, hd, he, hb, q⟩ := h
  obtain ⟨as, r1⟩ := Dp.reads I d x v hd rx
  obtain ⟨bs, r2⟩ := Dp.reads I e y u he ry
  unfold notInP at hb
  split at hb
  · rename_i xs
    split at hb
    · rename_i hc
      cases hb
      have hp := dp_plain _ _ he
      rw [PyData.plain] at hp
      have hz : d.depth ≤ 100 := of_decide_eq_true hc
      exact notIn_list_data r2 r1 hp (dp_plain _ _ hd) (by have := Nat.min_le_right (PyData.depthAll xs) d.depth; have := hr.un; omega) ⟨.bl _, H, I, rfl, q⟩
    · cases hb
  · rename_i xs
    split at hb
    · rename_i hc
      cases hb
      have hp := dp_plain _ _ he
      rw [PyData.plain] at hp
      have hz : d.depth ≤ 100 := of_decide_eq_true hc
      exact notIn_tuple_data r2 r1 hp (dp_plain _ _ hd) (by have := Nat.min_le_right (PyData.depthAll xs) d.depth; have := hr.un; omega) ⟨.bl _, H, I, rfl, q⟩
    · cases hb
  · cases hb
    cases hd
    cases he
    exact op_notIn_str pins s σ H _ _ v u Q I rx ry ⟨_, _, rfl, rfl, q⟩
  · cases hb
theorem dp_non {K : PySem.W.Frag} {H : Hp} {d : PyData} {v : V} (h : Dp K H v d) : decide (v = .non) = isNon d := by
  cases h <;> rfl
theorem opr_isNot : OpR X (compareOp .IsNot) (rD2 X.K isNotP) := by
  intro pins s σ H x y v u Q I rx ry h
  obtain ⟨d, e, b, hd, he, hb, q⟩ := h
  unfold isNotP at hb
  split at hb
  · cases hb
    cases he
    exact op_notN pins s σ H _ _ v u Q I rx ry ⟨rfl, by rw [dp_non hd]; exact q⟩
  · cases hb
    cases hd
    cases he
    exact op_notBl pins s σ H _ _ v u Q I rx ry ⟨_, _, rfl, rfl, q⟩
  · cases hb
end
section
variable {g : Gb} {W : WX} {ι : Type} {Xf : ι → Cx} {k : Nat}
theorem ok_eq (F : Fm g W k Xf) : OpOk g Xf (compareOp .Eq) (cD eqP) := ⟨_, fun i => F.K i ▸ opr_eq (F.room i), rdO_cD _⟩
theorem ok_ne (F : Fm g W k Xf) : OpOk g Xf (compareOp .NotEq) (cD neP) := ⟨_, fun i => F.K i ▸ opr_ne (F.room i), rdO_cD _⟩
theorem ok_lt (F : Fm g W k Xf) : OpOk g Xf (compareOp .Lt) (cD ltP) := ⟨_, fun i => F.K i ▸ opr_lt (F.room i), rdO_cD _⟩
theorem ok_gt (F : Fm g W k Xf) : OpOk g Xf (compareOp .Gt) (cD gtP) := ⟨_, fun i => F.K i ▸ opr_gt (F.room i), rdO_cD _⟩
theorem ok_le (F : Fm g W k Xf) : OpOk g Xf (compareOp .LtE) (cD leP) := ⟨_, fun i => F.K i ▸ opr_le (F.room i), rdO_cD _⟩
theorem ok_in (F : Fm g W k Xf) : OpOk g Xf (compareOp .In) (cD inP) := ⟨_, fun i => F.K i ▸ opr_in (F.room i), rdO_cD _⟩
theorem ok_notIn (F : Fm g W k Xf) : OpOk g Xf (compareOp .NotIn) (cD notInP) := ⟨_, fun i => F.K i ▸ opr_notIn (F.room i), rdO_cD _⟩
theorem ok_isNot (F : Fm g W k Xf) : OpOk g Xf (compareOp .IsNot) (cD isNotP) := ⟨_, fun i => F.K i ▸ opr_isNot, rdO_cD _⟩
/-! ### arithmetic -/
theorem opr_or {X : Cx} {f : Value → Value → Sem Value} {r r' : R2} (h : OpR X f r) (h' : OpR X f r') : OpR X f (fun x y H Q => r x y H Q ∨ r' x y H Q) := by
  intro pins s σ H x y v u Q I rx ry q
  rcases q with q | q
  · exact h pins s σ H x y v u Q I rx ry q
  · exact h' pins s σ H x y v u Q I rx ry q
def LIM : Nat := 1000000
theorem lim_sz {n : Nat} (h : n ≤ LIM) : n ≤ sizeLine := Nat.le_trans h (by decide)
def oAdd : U → U → Option U
  | .d (.int a), .d (.int b) => some (.d (.int (a + b)))
  | .d (.str a), .d (.str b) => if a.length + b.length ≤ LIM then some (.d (.str (a ++ b))) else none
  | .d (.list a), .d (.list b) => if a.length + b.length ≤ LIM then some (.d (.list (a ++ b))) else none
  | .d (.tuple a), .d (.tuple b) => if a.length + b.length ≤ LIM then some (.d (.tuple (a ++ b))) else none
  | _, _ => none
theorem ok_add (F : Fm g W k Xf) : OpOk g Xf (binaryOp .Add) oAdd := by
  refine ⟨_, fun i => opr_or op_add (opr_or op_add_str (opr_or op_cat (F.K i ▸ op_catA))), fun G H S x y u w z Q ok rx ry e k => ?_⟩
  unfold oAdd at e
  split at e
  · cases e
    cases rx
    cases ry
    exact .inl ⟨_, _, rfl, rfl, k _ G H (Grow.refl ok) (.int _)⟩
  · split at e
    · rename_i hl
      cases e
      cases rx
      cases ry
      exact .inr (.inl ⟨_, _, rfl, rfl, lim_sz hl, k _ G H (Grow.refl ok) (.str _)⟩)
    · cases e
  · split at e
    · rename_i hl
      cases e
      cases rx with
      | lst f1 h1 r1 =>
        cases ry with
        | lst f2 h2 r2 =>
          refine .inr (.inr (.inl ⟨_, _, _, _, rfl, rfl, h1, h2, lim_sz (by rw [r1.length, r2.length]; exact hl), fun p hp => ?_⟩))
          exact k _ G _ (Grow.new ok hp) (.lst (ok.fresh p hp) upd_same ((Grow.new ok hp).rpAll ok (r1.append r2)))
    · cases e
  · split at e
    · rename_i hl
      cases e
      cases rx with
      | tup h1 r1 =>
        cases ry with
        | tup h2 r2 =>
          refine .inr (.inr (.inr ⟨_, _, _, _, rfl, rfl, .inl (.inl h1), .inl (.inl h2), lim_sz (by rw [r1.length, r2.length]; exact hl), fun e1 => ?_, fun e1 e2 => ?_, fun e1 e2 p hp => ?_⟩))
          · subst e1
            cases r1
            exact k _ G H (Grow.refl ok) (.tup h2 r2)
          · subst e2
            cases r2
            exact k _ G H (Grow.refl ok) (.tup h1 (by rw [List.append_nil]; exact r1))
          · exact k _ G _ (Grow.new ok hp) (.tup upd_same ((Grow.new ok hp).rpAll ok (r1.append r2)))
    · cases e
  · cases e
def oSub : U → U → Option U
  | .d (.int a), .d (.int b) => some (.d (.int (a - b)))
  | _, _ => none
theorem ok_sub (F : Fm g W k Xf) : OpOk g Xf (binaryOp .Sub) oSub := by
  refine ⟨_, fun i => op_sub, fun G H S x y u w z Q ok rx ry e k => ?_⟩
  unfold oSub at e
  split at e
  · cases e
    cases rx
    cases ry
    exact ⟨_, _, rfl, rfl, k _ G H (Grow.refl ok) (.int _)⟩
  · cases e
def rep (n : Nat) (xs : List PyData) : List PyData := (List.replicate n xs).flatten
theorem rp_rep {F : Addr → Prop} {H : Hp} {vs : List V} {ds : List PyData} (h : RpAll F H vs ds) : ∀ n, RpAll F H (List.replicate n vs).flatten (rep n ds)
  | 0 => .nil
  | n + 1 => by
    unfold rep
    rw [List.replicate_succ, List.replicate_succ, List.flatten_cons, List.flatten_cons]
    exact h.append (rp_rep h n)
def oMul : U → U → Option U
  | .d (.int a), .d (.int b) => if a.natAbs < 2 ^ 63 ∨ b.natAbs < 2 ^ 63 then some (.d (.int (a * b))) else none
  | .d (.list a), .d (.int b) => if 0 ≤ b ∧ b ≤ 1000 ∧ a.length ≤ 1000 then some (.d (.list (rep b.toNat a))) else none
  | .d (.tuple a), .d (.int b) => if 2 ≤ b ∧ b ≤ 1000 ∧ a.length ≤ 1000 ∧ 0 < a.length then some (.d (.tuple (rep b.toNat a))) else none
  | _, _ => none
theorem ok_mul (F : Fm g W k Xf) : OpOk g Xf (binaryOp .Mult) oMul := by
  refine ⟨_, fun i => opr_or op_mul (opr_or op_rep (F.K i ▸ op_repT)), fun G H S x y u w z Q ok rx ry e k => ?_⟩
  unfold oMul at e
  split at e
  · split at e
    · rename_i hl
      cases e
      cases rx
      cases ry
      exact .inl ⟨_, _, rfl, rfl, hl.elim (fun h => .inl (by constructor <;> omega)) (fun h => .inr (by constructor <;> omega)), k _ G H (Grow.refl ok) (.int _)⟩
    · cases e
  · split at e
    · rename_i hl
      cases e
      cases rx with
      | lst f1 h1 r1 =>
        cases ry
        refine .inr (.inl ⟨_, _, _, rfl, rfl, h1, by omega, by omega, ?_, fun p hp => ?_⟩)
        · rw [r1.length]
          refine Nat.le_trans (Nat.mul_le_mul hl.2.2 (show _ ≤ 1000 by omega)) (by decide)
        · exact k _ G _ (Grow.new ok hp) (.lst (ok.fresh p hp) upd_same ((Grow.new ok hp).rpAll ok (rp_rep r1 _)))
    · cases e
  · split at e
    · rename_i hl
      cases e
      cases rx with
      | tup h1 r1 =>
        cases ry
        have hlen := r1.length
        refine .inr (.inr ⟨_, _, _, rfl, rfl, .inl (.inl h1), ?_, hl.1, hl.2.1, by omega, fun p hp => ?_⟩)
        · intro z
          subst z
          have := hl.2.2.2
          rw [← hlen] at this
          exact absurd this (by decide)
        · exact k _ G _ (Grow.new ok hp) (.tup upd_same ((Grow.new ok hp).rpAll ok (rp_rep r1 _)))
    · cases e
  · cases e
def oFdiv : U → U → Option U
  | .d (.int a), .d (.int b) => if b ≠ 0 ∧ b.natAbs < 1073741824 then some (.d (.int (a.fdiv b))) else none
  | _, _ => none
theorem ok_fdiv (F : Fm g W k Xf) : OpOk g Xf (binaryOp .FloorDiv) oFdiv := by
  refine ⟨_, fun i => op_fdivN, fun G H S x y u w z Q ok rx ry e k => ?_⟩
  unfold oFdiv at e
  split at e
  · split at e
    · rename_i hl
      cases e
      cases rx
      cases ry
      exact ⟨_, _, rfl, rfl, hl, k _ G H (Grow.refl ok) (.int _)⟩
    · cases e
  · cases e
def oMod : U → U → Option U
  | .d (.int a), .d (.int b) => if b ≠ 0 then some (.d (.int (a.fmod b))) else none
  | _, _ => none
theorem ok_mod (F : Fm g W k Xf) : OpOk g Xf (binaryOp .Mod) oMod := by
  refine ⟨_, fun i => op_modN, fun G H S x y u w z Q ok rx ry e k => ?_⟩
  unfold oMod at e
  split at e
  · split at e
    · rename_i hl
      cases e
      cases rx
      cases ry
      exact ⟨_, _, rfl, rfl, hl, k _ G H (Grow.refl ok) (.int _)⟩
    · cases e
  · cases e
def oPow : U → U → Option U
  | .d (.int a), .d (.int b) => if 0 ≤ b ∧ b ≤ 1000000 ∧ a.natAbs < 2 ^ 64 then some (.d (.int (a ^ b.toNat))) else none
  | _, _ => none
theorem ok_pow (F : Fm g W k Xf) : OpOk g Xf (binaryOp .Pow) oPow := by
  refine ⟨_, fun i => op_pow, fun G H S x y u w z Q ok rx ry e k => ?_⟩
  unfold oPow at e
  split at e
  · split at e
    · rename_i hl
      cases e
      cases rx
      cases ry
      exact ⟨_, _, rfl, rfl, hl, k _ G H (Grow.refl ok) (.int _)⟩
    · cases e
  · cases e
end
end DL
set_option maxHeartbeats 1000000
/-! The data layer: calls of built-ins, subscripts, slices. -/
namespace DL
open PySem L2 PySem.W PySem.SeqAt
/-! ### built-ins by name -/
def RdC (wd : Wd) (r : List V → Hp → VK → Prop) (op : List U → Option U) : Prop := ∀ (G : Gh) (H : Hp) (S : Sto) (vs : List V) (us : List U) (z : U) (Q : VK), GOk wd G H S → RpUs wd G H vs us → op us = some z →
  (∀ v G' H', Grow wd G H G' H' S → RpU wd G' H' v z → Q v H') → r vs H Q
/-- .. a new list comes back -/
def RdCF (wd : Wd) (r : List V → Hp → VK → Prop) (op : List U → Option U) : Prop := ∀ (G : Gh) (H : Hp) (S : Sto) (vs : List V) (us : List U) (z : U) (Q : VK), GOk wd G H S → RpUs wd G H vs us → op us = some z →
  (∀ ds, z = .d (.list ds) → ∀ p vs G' H', H p = none → G'.F p → Grow wd G H G' H' S → H' p = some (.lst vs) → RpAll (fun a => G'.F a ∧ a ≠ p) H' vs ds → Q (.ref p) H') → r vs H Q
def CallOk (g : Gb) {ι : Type} (Xf : ι → Cx) (f : Value) (op : List U → Option U) : Prop := ∃ r, (∀ i, CallR (Xf i) f r) ∧ RdC g.wd r op
def CallOkF (g : Gb) {ι : Type} (Xf : ι → Cx) (f : Value) (op : List U → Option U) : Prop := ∃ r, (∀ i, CallR (Xf i) f r) ∧ RdCF g.wd r op
def eBc (op : List U → Option U) (a : SemA) : SemE := fun δ S => bnd (a δ S) fun us S => match op us with
  | some z => some (.ok z, S)
  | none => none
section
variable {g : Gb} {W : WX} {ι : Type} {Xf : ι → Cx} {k : Nat}
theorem rd_cb {wd : Wd} {r : List V → Hp → VK → Prop} {op : List U → Option U} {t : TA} {a : SemA} (hr : RdC wd r op) (ha : RdA wd W t a) : RdE wd W (tCB r t) (eBc op a) := fun G σ H δ S z S' Q s0 e k1 k2 => by
  rcases bnd_some e with ⟨us, S1, ea, e2⟩ | ⟨c, ec, ez⟩
  · refine ha G σ H δ S _ S1 _ s0 ea (fun x ex vs G1 H1 gr1 rv => ?_) (fun c ec => nomatch ec)
    cases ex
    split at e2
    · rename_i zz hz
      cases e2
      exact hr G1 H1 _ vs us zz Q gr1.ok rv hz fun v G2 H2 gr2 r2 => k1 _ rfl v G2 H2 (gr1.trans gr2) r2
    · cases e2
  · subst ez
    refine ha G σ H δ S _ S' _ s0 ec (fun xs exs => nomatch exs) (fun c' ec' G2 H2 gr2 => ?_)
    cases ec'
    exact k2 c rfl G2 H2 gr2
theorem rd_cbF {wd : Wd} {r : List V → Hp → VK → Prop} {op : List U → Option U} {t : TA} {a : SemA} (hr : RdCF wd r op) (ha : RdA wd W t a) : RdF wd W (tCB r t) (eBc op a) := fun G σ H δ S z S' Q s0 e k1 k2 => by
  rcases bnd_some e with ⟨us, S1, ea, e2⟩ | ⟨c, ec, ez⟩
  · refine ha G σ H δ S _ S1 _ s0 ea (fun x ex vs G1 H1 gr1 rv => ?_) (fun c ec => nomatch ec)
    cases ex
    split at e2
    · rename_i zz hz
      cases e2
      refine hr G1 H1 _ vs us zz Q gr1.ok rv hz fun ds ed p ws G2 H2 hp fp gr2 hl ra => ?_
      subst ed
      exact k1 ds rfl p ws G2 H2 (gr1.none_of hp) fp (gr1.trans gr2) hl ra
    · cases e2
  · subst ez
    refine ha G σ H δ S _ S' _ s0 ec (fun xs exs => nomatch exs) (fun c' ec' G2 H2 gr2 => ?_)
    cases ec'
    exact k2 c rfl G2 H2 gr2
theorem se_callB {x : Str} {id : String} {e : Expr} {es : List Expr} {op : List U → Option U} {a : SemA} {p pos : Pos} (F : Fm g W k Xf) (hm : g.mg x = none) (hv : bootBuiltins x = some (.builtin id)) (hc : CallOk g Xf (.builtin id) op) (ha : SA g W Xf (e :: es) a)
    (hg : ∀ i, Gl (Xf i) x := by intro _; rfl) (hn : x ≠ "__name__" := by decide) (hdb : (x == ("__debug__" : Str)) = false := by decide)
    (he : ∀ i, starEach (e :: es) (Xf i).env = (false, eval e (Xf i).env) :: starEach es (Xf i).env := by intro _; rfl) (hpl : ∀ i, (backTo pos (starEach es (Xf i).env)).any (·.1) = false := by intro _; rfl) :
    SE g W Xf (.Call (.Name x p) (e :: es) [] pos) (eBc op a) := by
  obtain ⟨r, c1, c2⟩ := hc
  obtain ⟨t, p1, q1⟩ := ha
  exact ⟨_, fun i => pe_callB (c1 i) (hg i) (by rw [F.mg i]; exact hm) hv (p1 i) hn hdb (he i) (hpl i), rd_cb c2 q1⟩
theorem se_callTy {x : Str} {T : String} {e : Expr} {es : List Expr} {op : List U → Option U} {a : SemA} {p pos : Pos} (F : Fm g W k Xf) (hm : g.mg x = none) (hv : bootBuiltins x = some (.type T)) (hc : CallOk g Xf (.type T) op) (ha : SA g W Xf (e :: es) a)
    (hg : ∀ i, Gl (Xf i) x := by intro _; rfl) (hn : x ≠ "__name__" := by decide) (hdb : (x == ("__debug__" : Str)) = false := by decide)
    (he : ∀ i, starEach (e :: es) (Xf i).env = (false, eval e (Xf i).env) :: starEach es (Xf i).env := by intro _; rfl) (hpl : ∀ i, (backTo pos (starEach es (Xf i).env)).any (·.1) = false := by intro _; rfl) :
    SE g W Xf (.Call (.Name x p) (e :: es) [] pos) (eBc op a) := by
  obtain ⟨r, c1, c2⟩ := hc
  obtain ⟨t, p1, q1⟩ := ha
  exact ⟨_, fun i => pe_callTy (c1 i) (hg i) (by rw [F.mg i]; exact hm) hv (p1 i) hn hdb (he i) (hpl i), rd_cb c2 q1⟩
theorem sf_callB {x : Str} {id : String} {e : Expr} {es : List Expr} {op : List U → Option U} {a : SemA} {p pos : Pos} (F : Fm g W k Xf) (hm : g.mg x = none) (hv : bootBuiltins x = some (.builtin id)) (hc : CallOkF g Xf (.builtin id) op) (ha : SA g W Xf (e :: es) a)
    (hg : ∀ i, Gl (Xf i) x := by intro _; rfl) (hn : x ≠ "__name__" := by decide) (hdb : (x == ("__debug__" : Str)) = false := by decide)
    (he : ∀ i, starEach (e :: es) (Xf i).env = (false, eval e (Xf i).env) :: starEach es (Xf i).env := by intro _; rfl) (hpl : ∀ i, (backTo pos (starEach es (Xf i).env)).any (·.1) = false := by intro _; rfl) :
    SF g W Xf (.Call (.Name x p) (e :: es) [] pos) (eBc op a) := by
  obtain ⟨r, c1, c2⟩ := hc
  obtain ⟨t, p1, q1⟩ := ha
  exact ⟨_, fun i => pe_callB (c1 i) (hg i) (by rw [F.mg i]; exact hm) hv (p1 i) hn hdb (he i) (hpl i), rd_cbF c2 q1⟩
theorem sf_callTy {x : Str} {T : String} {e : Expr} {es : List Expr} {op : List U → Option U} {a : SemA} {p pos : Pos} (F : Fm g W k Xf) (hm : g.mg x = none) (hv : bootBuiltins x = some (.type T)) (hc : CallOkF g Xf (.type T) op) (ha : SA g W Xf (e :: es) a)
    (hg : ∀ i, Gl (Xf i) x := by intro _; rfl) (hn : x ≠ "__name__" := by decide) (hdb : (x == ("__debug__" : Str)) = false := by decide)
    (he : ∀ i, starEach (e :: es) (Xf i).env = (false, eval e (Xf i).env) :: starEach es (Xf i).env := by intro _; rfl) (hpl : ∀ i, (backTo pos (starEach es (Xf i).env)).any (·.1) = false := by intro _; rfl) :
    SF g W Xf (.Call (.Name x p) (e :: es) [] pos) (eBc op a) := by
  obtain ⟨r, c1, c2⟩ := hc
  obtain ⟨t, p1, q1⟩ := ha
  exact ⟨_, fun i => pe_callTy (c1 i) (hg i) (by rw [F.mg i]; exact hm) hv (p1 i) hn hdb (he i) (hpl i), rd_cbF c2 q1⟩
theorem rpUs1 {wd : Wd} {G : Gh} {H : Hp} {vs : List V} {u : U} (h : RpUs wd G H vs [u]) : ∃ v, vs = [v] ∧ RpU wd G H v u := by
  cases h with
  | cons h t =>
    cases t
    exact ⟨_, rfl, h⟩
theorem rpUs2 {wd : Wd} {G : Gh} {H : Hp} {vs : List V} {u w : U} (h : RpUs wd G H vs [u, w]) : ∃ v z, vs = [v, z] ∧ RpU wd G H v u ∧ RpU wd G H z w := by
  cases h with
  | cons h t =>
    cases t with
    | cons h2 t =>
      cases t
      exact ⟨_, _, rfl, h, h2⟩
/-! ### len -/
def oLen : List U → Option U
  | [.d (.list xs)] => some (.d (.int xs.length))
  | [.d (.tuple xs)] => some (.d (.int xs.length))
  | _ => none
theorem ok_len (F : Fm g W k Xf) : CallOk g Xf (.builtin "len") oLen := by
  refine ⟨fun xs H Q => ∃ p ys, xs = [.ref p] ∧ (SqL g.wd.K H p ys ∨ SqT g.wd.K H p ys) ∧ Q (.int ys.length) H, fun i => F.K i ▸ call_len_seq, fun G H S vs us z Q ok rv e k => ?_⟩
  unfold oLen at e
  split at e
  · cases e
    obtain ⟨v, rfl, h⟩ := rpUs1 rv
    cases h with
    | lst f h r => exact ⟨_, _, rfl, .inl (.inl (.inl h)), by rw [r.length]; exact k _ G H (Grow.refl ok) (.int _)⟩
  · cases e
    obtain ⟨v, rfl, h⟩ := rpUs1 rv
    cases h with
    | tup h r => exact ⟨_, _, rfl, .inr (.inl (.inl h)), by rw [r.length]; exact k _ G H (Grow.refl ok) (.int _)⟩
  · cases e
/-! ### all, any -/
def allB : List PyData → Option (List Bool)
  | [] => some []
  | .bool b :: r => match allB r with
    | some bs => some (b :: bs)
    | none => none
  | _ :: _ => none
theorem allB_vs {F : Addr → Prop} {H : Hp} : ∀ {ds : List PyData} {vs : List V} {bs : List Bool}, RpAll F H vs ds → allB ds = some bs → vs = bs.map V.bl
  | [], _, _, h, e => by
    cases h
    cases e
    rfl
  | d :: ds, _, _, h, e => by
    cases h with
    | cons h t =>
      cases d with
      | bool b =>
        unfold allB at e
        split at e
        · rename_i bs hb
          cases e
          cases h
          rw [allB_vs t hb]
          rfl
        · cases e
      | none => cases e
      | int _ => cases e
      | str _ => cases e
      | list _ => cases e
      | tuple _ => cases e
      | dict _ => cases e
def oAll : List U → Option U
  | [.d (.list xs)] => match allB xs with
    | some bs => some (.d (.bool (bs.all id)))
    | none => none
  | _ => none
theorem ok_all (F : Fm g W k Xf) : CallOk g Xf (.builtin "all") oAll := by
  refine ⟨rAll g.wd.K, fun i => F.K i ▸ cr_all (F.calm i), fun G H S vs us z Q ok rv e k => ?_⟩
  unfold oAll at e
  split at e
  · split at e
    · rename_i bs hb
      cases e
      obtain ⟨v, rfl, h⟩ := rpUs1 rv
      cases h with
      | lst f h r =>
        have hv := allB_vs r hb
        subst hv
        exact ⟨_, bs, rfl, .inl (.inl h), k _ G H (Grow.refl ok) (.bl _)⟩
    · cases e
  · cases e
/-! ### list(x), tuple(x) -/
def oList : List U → Option U
  | [.d (.list xs)] => some (.d (.list xs))
  | [.d (.tuple xs)] => some (.d (.list xs))
  | _ => none
theorem ok_list (F : Fm g W k Xf) : CallOkF g Xf (.type "list") oList := by
  refine ⟨fun xs H Q => ∃ p ys, xs = [.ref p] ∧ (SqL g.wd.K H p ys ∨ SqT g.wd.K H p ys) ∧ ∀ l, H l = none → Q (.ref l) (upd H l (.lst ys)), fun i => F.K i ▸ call_list_of, fun G H S vs us z Q ok rv e k => ?_⟩
  unfold oList at e
  split at e
  · cases e
    obtain ⟨v, rfl, h⟩ := rpUs1 rv
    cases h with
    | lst f h r => exact ⟨_, _, rfl, .inl (.inl (.inl h)), fun p hp => k _ rfl p _ G _ hp (ok.fresh p hp) (Grow.new ok hp) upd_same (new_lst ok hp r)⟩
  · cases e
    obtain ⟨v, rfl, h⟩ := rpUs1 rv
    cases h with
    | tup h r => exact ⟨_, _, rfl, .inr (.inl (.inl h)), fun p hp => k _ rfl p _ G _ hp (ok.fresh p hp) (Grow.new ok hp) upd_same (new_lst ok hp r)⟩
  · cases e
def oTuple : List U → Option U
  | [.d (.list xs)] => some (.d (.tuple xs))
  | [.d (.tuple xs)] => some (.d (.tuple xs))
  | _ => none
theorem ok_tuple (F : Fm g W k Xf) : CallOk g Xf (.type "tuple") oTuple := by
  refine ⟨fun xs H Q => ∃ p ys, xs = [.ref p] ∧ ((SqL g.wd.K H p ys ∧ ∀ l, H l = none → Q (.ref l) (upd H l (.tup ys))) ∨ (SqT g.wd.K H p ys ∧ Q (.ref p) H)), fun i => F.K i ▸ call_tuple_of, fun G H S vs us z Q ok rv e k => ?_⟩
  unfold oTuple at e
  split at e
  · cases e
    obtain ⟨v, rfl, h⟩ := rpUs1 rv
    cases h with
    | lst f h r => exact ⟨_, _, rfl, .inl ⟨.inl (.inl h), fun p hp => k _ G _ (Grow.new ok hp) (.tup upd_same ((Grow.new ok hp).rpAll ok r))⟩⟩
  · cases e
    obtain ⟨v, rfl, h⟩ := rpUs1 rv
    cases h with
    | tup h r => exact ⟨_, _, rfl, .inr ⟨.inl (.inl h), k _ G H (Grow.refl ok) (.tup h r)⟩⟩
  · cases e
/-! ### min, max of two ints -/
def oMin2 : List U → Option U
  | [.d (.int i), .d (.int j)] => some (.d (.int (if j < i then j else i)))
  | _ => none
theorem ok_min2 (F : Fm g W k Xf) : CallOk g Xf (.builtin "min") oMin2 := by
  refine ⟨_, fun i => call_min2 (F.calm i), fun G H S vs us z Q ok rv e k => ?_⟩
  unfold oMin2 at e
  split at e
  · cases e
    obtain ⟨v, w, rfl, h1, h2⟩ := rpUs2 rv
    cases h1
    cases h2
    exact ⟨_, _, rfl, k _ G H (Grow.refl ok) (.int _)⟩
  · cases e
/-! ### sorted(list) -/
def isTupC : PyData → Bool
  | .tuple (_ :: _) => true
  | _ => false
def isPlainK : PyData → Bool
  | .none => false
  | .tuple _ => false
  | _ => true
def sortOk (ds : List PyData) : Bool := (ds.all fun d => ds.all fun e => alike d e) && (ds.all isTupC || ds.all isPlainK) && ds.all dOk && decide (ds.length ≤ LIM)
def leD (a b : PyData) : Bool := !dataLt b a
def sortD (ds : List PyData) : List PyData := ds.mergeSort leD
def rSortD (K : PySem.W.Frag) : List V → Hp → VK → Prop := fun xs H Q => ∃ (a : Addr) (ps : List (V × PyData)), xs = [.ref a] ∧ H a = some (.lst (ps.map (·.1))) ∧ (∀ p ∈ ps, Dp K H p.1 p.2) ∧ sortOk (ps.map (·.2)) = true ∧
  ∀ q, H q = none → Q (.ref q) (upd H q (.lst ((ps.mergeSort fun a b => leD a.2 b.2).map (·.1))))
theorem each_of_vals : ∀ {ps : List (V × PyData)} {us : List Value}, Vals (ps.map (·.1)) us → EachIs (fun u p => RelV p.1 u) us ps
  | [], _, .nil => .nil
  | p :: ps, _, .cons r t => .cons r (each_of_vals t)
theorem vals_of_each : ∀ {ps : List (V × PyData)} {us : List Value}, EachIs (fun u p => RelV p.1 u) us ps → Vals (ps.map (·.1)) us
  | _, _, .nil => .nil
  | _, _, .cons r t => .cons r (vals_of_each t)
theorem each_reads {X : Cx} {pins : List (Addr × Obj)} {σ : L2.St} {H : Hp} {s : Shared} (I : Inv X pins σ H s) : ∀ {ps : List (V × PyData)} {us : List Value}, (∀ p ∈ ps, Dp X.K H p.1 p.2) → EachIs (fun u p => RelV p.1 u) us ps → EachIs (fun (u : Value) (p : V × PyData) => ∃ as, Reads s.heap u p.2 as) us ps
  | _, _, _, .nil => .nil
  | _, _, h, .cons r t => .cons (Dp.reads I _ _ _ (h _ List.mem_cons_self) r) (each_reads I (fun p hp => h p (List.mem_cons_of_mem _ hp)) t)
theorem sortOk_alike {ds : List PyData} (h : sortOk ds = true) : AllAlike ds ∧ Sortable ds ∧ (∀ d ∈ ds, d.depth ≤ 100) ∧ ds.length ≤ LIM := by
  unfold sortOk at h
  rw [Bool.and_eq_true, Bool.and_eq_true, Bool.and_eq_true] at h
  obtain ⟨⟨⟨h1, h2⟩, h3⟩, h4⟩ := h
  refine ⟨fun d hd e he => List.all_eq_true.mp (List.all_eq_true.mp h1 d hd) e he, ?_, fun d hd => of_decide_eq_true (List.all_eq_true.mp h3 d hd), of_decide_eq_true h4⟩
  rcases (Bool.or_eq_true _ _).mp h2 with h | h
  · refine .inl fun d hd => ?_
    have := List.all_eq_true.mp h d hd
    unfold isTupC at this
    split at this
    · exact ⟨_, _, rfl⟩
    · cases this
  · refine .inr fun d hd => ?_
    have := List.all_eq_true.mp h d hd
    constructor
    · intro z
      subst z
      cases this
    · intro xs z
      subst z
      cases this
theorem cr_sortD {X : Cx} (hr : Room k X.A) : CallR X (.builtin "sorted") (rSortD X.K) := by
  intro pins s σ H vs us Q I rv h
  obtain ⟨a, ps, rfl, ha, hd, hs, q⟩ := h
  obtain ⟨its, r1, hl, hz⟩ := I.list (show SqL X.K H a (ps.map (·.1)) from .inl (.inl ha))
  rw [Vals.ref1 rv]
  obtain ⟨h1, h2, h3, h4⟩ := sortOk_alike hs
  rw [List.length_map] at h4
  have e1 := each_of_vals r1
  refine sorted_data (enc := fun p : V × PyData => p.2) hl.isList e1 (each_reads I hd e1) h1 h2 (lim_sz h4) (fun p hp => by have := h3 p.2 (List.mem_map_of_mem hp); have := hr.un; omega) fun out hlen eo => ?_
  obtain ⟨ep, he'⟩ := PyProof.Rows.sortedAll_at s.heap its out.toArray
  have ed : dataLe false (fun p : V × PyData => p.2) = fun a b => leD a.2 b.2 := rfl
  rw [ed] at eo
  have hv := vals_of_each eo
  have hlen2 : ((ps.mergeSort fun a b => leD a.2 b.2).map (·.1)).length ≤ sizeLine := by
    rw [List.length_map, List.length_mergeSort]
    exact lim_sz h4
  exact ⟨.ref _, upd H (s.heap.objs.size + 1) (.lst ((ps.mergeSort fun a b => leD a.2 b.2).map (·.1))), I.laid (t' := s.toks) (fun _ _ => PyProof.Rows.sortedAll_old) (Nat.le_succ _) ⟨hlen2, out, ep, hv, he'⟩, rfl, q _ (I.hok.fresh (Nat.le_succ _))⟩
theorem rp_pairs {F : Addr → Prop} {H : Hp} : ∀ {vs : List V} {ds : List PyData}, RpAll F H vs ds → ∃ ps : List (V × PyData), vs = ps.map (·.1) ∧ ds = ps.map (·.2) ∧ ∀ p ∈ ps, Rp F H p.1 p.2
  | _, _, .nil => ⟨[], rfl, rfl, fun _ h => nomatch h⟩
  | _, _, .cons h t => by
    obtain ⟨ps, e1, e2, e3⟩ := rp_pairs t
    refine ⟨(_, _) :: ps, by rw [e1]; rfl, by rw [e2]; rfl, fun p hp => ?_⟩
    rcases List.mem_cons.mp hp with rfl | hp
    · exact h
    · exact e3 p hp
theorem rp_of_pairs {F : Addr → Prop} {H : Hp} : ∀ {ps : List (V × PyData)}, (∀ p ∈ ps, Rp F H p.1 p.2) → RpAll F H (ps.map (·.1)) (ps.map (·.2))
  | [], _ => .nil
  | p :: ps, h => .cons (h p List.mem_cons_self) (rp_of_pairs fun q hq => h q (List.mem_cons_of_mem _ hq))
theorem sort_pairs (ps : List (V × PyData)) : (ps.mergeSort fun a b => leD a.2 b.2).map (·.2) = sortD (ps.map (·.2)) := sort_maps (s := leD) (fun p : V × PyData => p.2) fun _ _ _ _ => rfl
/-! ### isinstance(x, T) -/
inductive Ty where
  | int | bool | tuple | str
def Ty.name : Ty → String
  | .int => "int"
  | .bool => "bool"
  | .tuple => "tuple"
  | .str => "str"
def isT : Ty → PyData → Bool
  | .int, d => d.isInt
  | .bool, d => d.isBool
  | .tuple, d => d.isTuple
  | .str, d => d.isStr
def rIsT (K : PySem.W.Frag) (T : Ty) : List V → Hp → VK → Prop := fun xs H Q => ∃ x d, xs = [x, .ty T.name] ∧ Dp K H x d ∧ Q (.bl (isT T d)) H
theorem cr_isT {X : Cx} (T : Ty) : CallR X (.builtin "isinstance") (rIsT X.K T) := by
  intro pins s σ H vs us Q I rv h
  obtain ⟨x, d, rfl, hd, q⟩ := h
  cases rv with
  | cons r1 t =>
    cases t with
    | cons r2 t =>
      cases t
      cases r2
      obtain ⟨as, r⟩ := Dp.reads I d x _ hd r1
      cases T with
      | int => exact isinstance_int_data r fun tk _ => ⟨.bl _, H, I.kept (t' := tk) fun _ _ z => z, rfl, q⟩
      | bool => exact isinstance_bool_data r fun tk _ => ⟨.bl _, H, I.kept (t' := tk) fun _ _ z => z, rfl, q⟩
      | tuple => exact isinstance_tuple_data r fun tk _ => ⟨.bl _, H, I.kept (t' := tk) fun _ _ z => z, rfl, q⟩
      | str => exact isinstance_str_data r fun tk _ => ⟨.bl _, H, I.kept (t' := tk) fun _ _ z => z, rfl, q⟩
def eIsT (T : Ty) (f : SemE) : SemE := fun δ S => bnd (f δ S) fun x S => match x with
  | .d x => some (.ok (.d (.bool (isT T x))), S)
  | _ => none
theorem se_isT {a : Expr} {f : SemE} {p p2 pos : Pos} {x : Str} (T : Ty) (F : Fm g W k Xf) (hm : g.mg "isinstance" = none) (hm2 : g.mg x = none) (hv2 : bootBuiltins x = some (.type T.name)) (ha : SE g W Xf a f)
    (hg : ∀ i, Gl (Xf i) "isinstance" := by intro _; rfl) (hg2 : ∀ i, Gl (Xf i) x := by intro _; rfl) (hn : x ≠ "__name__" := by decide) (hdb : (x == ("__debug__" : Str)) = false := by decide)
    (he : ∀ i, starEach [a, .Name x p2] (Xf i).env = (false, eval a (Xf i).env) :: starEach [.Name x p2] (Xf i).env := by intro _; rfl) :
    SE g W Xf (.Call (.Name "isinstance" p) [a, .Name x p2] [] pos) (eIsT T f) := by
  obtain ⟨t, p1, q1⟩ := ha
  refine ⟨tCB (rIsT g.wd.K T) (tCons t (tCons (tC (.ty T.name)) tNil)), fun i => ?_, fun G σ H δ S z S' Q s0 e k1 k2 => ?_⟩
  · exact pe_callB (F.K i ▸ cr_isT T) (hg i) (by rw [F.mg i]; exact hm) PyProof.Rows.boot_isinstance (pa_cons (p1 i) (pa_cons (pe_bltn (v := .ty T.name) (hg2 i) (by rw [F.mg i]; exact hm2) hv2 rfl hn hdb) pa_nil) (he i)) (by decide) (by decide) (he i) rfl
  · rcases bnd_some e with ⟨u, S1, ea, e2⟩ | ⟨c, ec, ez⟩
    · refine q1 G σ H δ S _ S1 _ s0 ea (fun x ex v G1 H1 gr1 rv => ?_) (fun c ec => nomatch ec)
      cases ex
      split at e2
      · cases e2
        exact ⟨v, _, rfl, Rp.dp _ _ _ rv, k1 _ rfl _ G1 H1 gr1 (.bl _)⟩
      · cases e2
    · subst ez
      refine q1 G σ H δ S _ S' _ s0 ec (fun xs exs => nomatch exs) (fun c' ec' G2 H2 gr2 => ?_)
      cases ec'
      exact k2 c rfl G2 H2 gr2
/-! ### xs[i], xs[lo:hi] -/
theorem atI_rp {F : Addr → Prop} {H : Hp} {vs : List V} {ds : List PyData} {i : Int} {d : PyData} (h : RpAll F H vs ds) (e : atI ds i = some d) : ∃ v, atI vs i = some v ∧ Rp F H v d := by
  unfold atI at e ⊢
  rw [h.length]
  cases hj : ixN ds.length i with
  | none =>
    rw [hj] at e
    cases e
  | some j =>
    rw [hj] at e
    exact h.getD e
def oIx : U → U → Option U
  | .d (.list xs), .d (.int i) => match atI xs i with
    | some x => some (.d x)
    | none => none
  | .d (.tuple xs), .d (.int i) => match atI xs i with
    | some x => some (.d x)
    | none => none
  | _, _ => none
theorem rdO_ix {wd : Wd} : RdO wd (rIx wd.K) oIx := fun G H S x y u w z Q ok rx ry e k => by
  unfold oIx at e
  split at e
  · split at e
    · rename_i hz
      cases e
      cases ry
      cases rx with
      | lst f h r =>
        obtain ⟨v, e1, r1⟩ := atI_rp r hz
        exact .inl ⟨_, _, _, v, rfl, rfl, .inl (.inl h), e1, k v G H (Grow.refl ok) r1⟩
    · cases e
  · split at e
    · rename_i hz
      cases e
      cases ry
      cases rx with
      | tup h r =>
        obtain ⟨v, e1, r1⟩ := atI_rp r hz
        exact .inr (.inl ⟨_, _, _, v, rfl, rfl, .inl (.inl h), e1, k v G H (Grow.refl ok) r1⟩)
    · cases e
  · cases e
theorem se_ix {a b : Expr} {f h : SemE} {pos : Pos} (F : Fm g W k Xf) (ha : SE g W Xf a f) (hb : SE g W Xf b h) (hs : PlainIx b := by exact fun _ _ => rfl) : SE g W Xf (.Subscript a b pos) (eOp oIx f h) := by
  obtain ⟨t, p1, q1⟩ := ha
  obtain ⟨u, p2, q2⟩ := hb
  exact ⟨tOp (rIx g.wd.K) t u, fun i => pe_ix (F.K i ▸ ix_seq) (p1 i) (p2 i) hs, rd_op rdO_ix q1 q2⟩
/-- -1 and its like -/
def eNeg (f : SemE) : SemE := fun δ S => bnd (f δ S) fun x S => match x with
  | .d (.int i) => some (.ok (.d (.int (-i))), S)
  | _ => none
theorem se_neg {a : Expr} {f : SemE} {pos : Pos} (ha : SE g W Xf a f) : SE g W Xf (.UnaryOp .USub a pos) (eNeg f) := by
  obtain ⟨t, p1, q1⟩ := ha
  refine ⟨_, fun i => pe_un un_neg (p1 i), fun G σ H δ S z S' Q s0 e k1 k2 => ?_⟩
  rcases bnd_some e with ⟨u, S1, ea, e2⟩ | ⟨c, ec, ez⟩
  · refine q1 G σ H δ S _ S1 _ s0 ea (fun x ex v G1 H1 gr1 rv => ?_) (fun c ec => nomatch ec)
    cases ex
    split at e2
    · cases e2
      cases rv
      exact ⟨_, rfl, k1 _ rfl _ G1 H1 gr1 (.int _)⟩
    · cases e2
  · subst ez
    refine q1 G σ H δ S _ S' _ s0 ec (fun xs exs => nomatch exs) (fun c' ec' G2 H2 gr2 => ?_)
    cases ec'
    exact k2 c rfl G2 H2 gr2
/-- a part of a slice -/
abbrev SemO := En → Sto → Rs (Option Int)
def RdPO (wd : Wd) (W : WX) (t : TO) (f : SemO) : Prop := ∀ (G : Gh) (σ : L2.St) (H : Hp) (δ : En) (S : Sto) (r : Except Nat (Option Int)) (S' : Sto) (Q : Option Int → Hp → Prop), St0 wd G σ H δ S → f δ S = some (r, S') →
  (∀ o, r = .ok o → ∀ G' H', Grow wd G H G' H' S' → Q o H') → (∀ c, r = .error c → ∀ G' H', Grow wd G H G' H' S' → W (.ref (wd.ca c)) none σ H') → t σ H Q
def SO (g : Gb) (W : WX) {ι : Type} (Xf : ι → Cx) (e : Option Expr) (f : SemO) : Prop := ∃ t, (∀ i, PO (Xf i) e t) ∧ RdPO g.wd W t f
def oNo : SemO := fun _ S => some (.ok none, S)
def oSome (f : SemE) : SemO := fun δ S => bnd (f δ S) fun x S => match x with
  | .d (.int i) => some (.ok (some i), S)
  | _ => none
theorem so_none : SO g W Xf none oNo := ⟨_, fun _ => po_none, fun G σ H δ S r S' Q s0 e q1 q2 => by
  unfold oNo at e
  cases e
  exact q1 _ rfl G H (Grow.refl s0.ok)⟩
theorem so_some {e : Expr} {f : SemE} (h : SE g W Xf e f) : SO g W Xf (some e) (oSome f) := by
  obtain ⟨t, p1, q1⟩ := h
  refine ⟨_, fun i => po_some (p1 i), fun G σ H δ S z S' Q s0 e k1 k2 => ?_⟩
  rcases bnd_some e with ⟨u, S1, ea, e2⟩ | ⟨c, ec, ez⟩
  · refine q1 G σ H δ S _ S1 _ s0 ea (fun x ex v G1 H1 gr1 rv => ?_) (fun c ec => nomatch ec)
    cases ex
    split at e2
    · cases e2
      cases rv
      exact ⟨_, rfl, k1 _ rfl G1 H1 gr1⟩
    · cases e2
  · subst ez
    refine q1 G σ H δ S _ S' _ s0 ec (fun xs exs => nomatch exs) (fun c' ec' G2 H2 gr2 => ?_)
    cases ec'
    exact k2 c rfl G2 H2 gr2
def cutD (xs : List PyData) (lo hi : Option Int) : List PyData := (xs.drop (HT.sIx xs.length 0 lo)).take (HT.sIx xs.length xs.length hi - HT.sIx xs.length 0 lo)
theorem cut_rp {F : Addr → Prop} {H : Hp} {vs : List V} {ds : List PyData} (h : RpAll F H vs ds) (lo hi : Option Int) : RpAll F H (cutV vs lo hi) (cutD ds lo hi) := by
  unfold cutV cutD
  rw [h.length]
  exact (h.drop _).take _
def eSl (f : SemE) (lo hi : SemO) : SemE := fun δ S => bnd (f δ S) fun x S => bnd (lo δ S) fun l S => bnd (hi δ S) fun u S => match x with
  | .d (.list xs) => some (.ok (.d (.list (cutD xs l u))), S)
  | .d (.tuple xs) => some (.ok (.d (.tuple (cutD xs l u))), S)
  | _ => none
theorem cut_all {xs : List PyData} {lo hi : Option Int} (h : HT.sIx xs.length 0 lo = 0 ∧ HT.sIx xs.length xs.length hi = xs.length) : cutD xs lo hi = xs := by
  unfold cutD
  rw [h.1, h.2, List.drop_zero, Nat.sub_zero, List.take_length]
theorem se_slice {e : Expr} {lo hi : Option Expr} {f : SemE} {l h : SemO} {p2 pos : Pos} (F : Fm g W k Xf) (he : SE g W Xf e f) (hl : SO g W Xf lo l) (hu : SO g W Xf hi h) : SE g W Xf (.Subscript e (.Slice lo hi none p2) pos) (eSl f l h) := by
  obtain ⟨t, p1, q1⟩ := he
  obtain ⟨tl, p2, q2⟩ := hl
  obtain ⟨th, p3, q3⟩ := hu
  refine ⟨tSl (fun x lo hi H Q => rSlL g.wd.K x lo hi H Q ∨ rSlA g.wd.K x lo hi H Q) t tl th, fun i => pe_slice (F.K i ▸ SlR.or sl_list sl_tupA) (p1 i) (p2 i) (p3 i), fun G σ H δ S z S' Q s0 e k1 k2 => ?_⟩
  rcases bnd_some e with ⟨u, S1, ea, e2⟩ | ⟨c, ec, ez⟩
  · refine q1 G σ H δ S _ S1 _ s0 ea (fun x ex v G1 H1 gr1 rv => ?_) (fun c ec => nomatch ec)
    cases ex
    have s1 := s0.grow gr1
    rcases bnd_some e2 with ⟨lo, S2, el, e3⟩ | ⟨c, ec, ez⟩
    · refine q2 G1 σ H1 δ S1 _ S2 _ s1 el (fun x ex G2 H2 gr2 => ?_) (fun c ec => nomatch ec)
      cases ex
      have s2 := s1.grow gr2
      rcases bnd_some e3 with ⟨hi, S3, eh, e4⟩ | ⟨c, ec, ez⟩
      · refine q3 G2 σ H2 δ S2 _ S3 _ s2 eh (fun x ex G3 H3 gr3 => ?_) (fun c ec => nomatch ec)
        cases ex
        have rv3 := gr3.rpU s2.ok (gr2.rpU s1.ok rv)
        have gr := (gr1.trans gr2).trans gr3
        split at e4
        · cases e4
          cases rv3 with
          | lst f h r => exact .inl ⟨_, _, rfl, .inl (.inl h), fun p hp => k1 _ rfl _ G3 _ (gr.trans (Grow.new gr3.ok hp)) (.lst (gr3.ok.fresh p hp) upd_same ((Grow.new gr3.ok hp).rpAll gr3.ok (cut_rp r _ _)))⟩
        · cases e4
          cases rv3 with
          | tup h r =>
            refine .inr ⟨_, _, rfl, .inl (.inl h), fun hz => ?_, fun hz p hp => k1 _ rfl _ G3 _ (gr.trans (Grow.new gr3.ok hp)) (.tup upd_same ((Grow.new gr3.ok hp).rpAll gr3.ok (cut_rp r _ _)))⟩
            refine k1 _ rfl _ G3 H3 gr (.tup h ?_)
            rw [r.length] at hz
            rw [cut_all hz]
            exact r
        · cases e4
      · subst ez
        refine q3 G2 σ H2 δ S2 _ _ _ s2 ec (fun xs exs => nomatch exs) (fun c' ec' G3 H3 gr3 => ?_)
        cases ec'
        exact k2 c rfl G3 H3 ((gr1.trans gr2).trans gr3)
    · subst ez
      refine q2 G1 σ H1 δ S1 _ _ _ s1 ec (fun xs exs => nomatch exs) (fun c' ec' G2 H2 gr2 => ?_)
      cases ec'
      exact k2 c rfl G2 H2 (gr1.trans gr2)
  · subst ez
    refine q1 G σ H δ S _ S' _ s0 ec (fun xs exs => nomatch exs) (fun c' ec' G2 H2 gr2 => ?_)
    cases ec'
    exact k2 c rfl G2 H2 gr2
end
end DL
set_option maxHeartbeats 1000000
/-! The data layer: what is walked, targets, list comprehensions. -/
namespace DL
open PySem L2 PySem.W PySem.SeqAt
/-- what data lean on stays -/
structure Keep (G : Gh) (H : Hp) (G' : Gh) (H' : Hp) : Prop where
  lst : ∀ a xs, G.F a → H a = some (.lst xs) → G'.F a ∧ H' a = some (.lst xs)
  tup : ∀ a xs, H a = some (.tup xs) → H' a = some (.tup xs)
  ta : ∀ a, G.ta = some a → G'.ta = some a
  oa : ∀ (k : Nat) (t : Addr × Addr), G.oa[k]? = some t → ∃ l, G'.oa[k]? = some (t.1, l)
section
variable {wd : Wd} {G G1 G2 G' : Gh} {H H1 H2 H' : Hp} {S S1 S2 S' : Sto}
theorem Keep.refl : Keep G H G H := ⟨fun _ _ f h => ⟨f, h⟩, fun _ _ h => h, fun _ h => h, fun _ t h => ⟨t.2, h⟩⟩
theorem Keep.trans (a : Keep G H G1 H1) (b : Keep G1 H1 G2 H2) : Keep G H G2 H2 :=
  ⟨fun x xs f h => b.lst x xs (a.lst x xs f h).1 (a.lst x xs f h).2, fun x xs h => b.tup x xs (a.tup x xs h), fun x h => b.ta x (a.ta x h), fun k t h => by
    obtain ⟨l, e⟩ := a.oa k t h
    exact b.oa k (t.1, l) e⟩
theorem Grow.kp (gr : Grow wd G H G' H' S') (g : GOk wd G H S) : Keep G H G' H' := ⟨fun _ _ f h => gr.lst g f h, fun _ _ h => gr.tup g h, gr.ta, gr.oa⟩
theorem Keep.rp (k : Keep G H G' H') {v : V} {d : PyData} (h : Rp G.F H v d) : Rp G'.F H' v d := Rp.move (fun _ _ f r => k.lst _ _ f r) (fun _ _ r => k.tup _ _ r) d v h
theorem Keep.rpAll (k : Keep G H G' H') {vs : List V} {ds : List PyData} (h : RpAll G.F H vs ds) : RpAll G'.F H' vs ds := RpAll.move (fun _ _ f r => k.lst _ _ f r) (fun _ _ r => k.tup _ _ r) ds vs h
theorem Keep.rpU (k : Keep G H G' H') {v : V} {u : U} (h : RpU wd G H v u) : RpU wd G' H' v u := by
  cases u with
  | d x => exact k.rp h
  | sc => exact h
  | tw =>
    obtain ⟨a, e, rfl⟩ := h
    exact ⟨a, k.ta a e, rfl⟩
  | o j =>
    obtain ⟨t, e, rfl⟩ := h
    obtain ⟨l, e'⟩ := k.oa j t e
    exact ⟨_, e', rfl⟩
  | x c => exact h
end
/-! ### what is walked -/
def Wk (wd : Wd) (J : It) (G : Gh) (H : Hp) (items : List PyData) : Prop := ∀ (G1 : Gh) (H1 : Hp) (S1 : Sto), Keep G H G1 H1 → GOk wd G1 H1 S1 →
  (∀ i, items.length ≤ i → J.stop i H1) ∧ ∀ i d, items[i]? = some d → J.go i H1 ∧ ∀ x H2, J.yld i H1 x H2 → Grow wd G1 H1 G1 H2 S1 ∧ Rp G1.F H2 x d
theorem Wk.keep {wd : Wd} {J : It} {G G' : Gh} {H H' : Hp} {items : List PyData} (h : Wk wd J G H items) (k : Keep G H G' H') : Wk wd J G' H' items := fun G1 H1 S1 k1 => h G1 H1 S1 (k.trans k1)
abbrev SemI := En → Sto → Rs (List PyData)
def RdI (wd : Wd) (W : WX) (wi : TI) (f : SemI) : Prop := ∀ (G : Gh) (σ : L2.St) (H : Hp) (δ : En) (S : Sto) (r : Except Nat (List PyData)) (S' : Sto) (R : It → Hp → Prop), St0 wd G σ H δ S → f δ S = some (r, S') →
  (∀ items, r = .ok items → ∀ J G' H', Grow wd G H G' H' S' → Wk wd J G' H' items → R J H') → (∀ c, r = .error c → ∀ G' H', Grow wd G H G' H' S' → W (.ref (wd.ca c)) none σ H') → wi σ H R
def SI (g : Gb) (W : WX) {ι : Type} (Xf : ι → Cx) (tg iter : Expr) (f : SemI) : Prop := ∃ wi, (∀ i, PI (Xf i) tg iter wi) ∧ RdI g.wd W wi f
/-- a list, a tuple, a text's signs -/
def iSeq (K : PySem.W.Frag) (tl : TE) : TI := fun σ H R => tl σ H fun x H1 => (∃ a, x = .ref a ∧ (∃ xs, SqL K H1 a xs) ∧ R (Itl K a) H1) ∨ (∃ a, x = .ref a ∧ (∃ xs, SqT K H1 a xs) ∧ R (Itt K a) H1) ∨ ∃ z, x = .str z ∧ R (Its z) H1
theorem pi_seq {X : Cx} {tg l : Expr} {tl : TE} (hl : PE X l tl) : PI X tg l (iSeq X.K tl) := by
  refine ⟨fun pins s σ H R I h => ?_⟩
  refine thn (hl.run pins s σ H _ I h) fun v s1 ⟨x, H1, I1, r1, q1⟩ => ?_
  rcases q1 with ⟨a, e, ⟨xs, hq⟩, q⟩ | ⟨a, e, ⟨xs, hq⟩, q⟩ | ⟨z, e, q⟩
  · subst e
    cases r1
    obtain ⟨its, rv, p, hz⟩ := I1.list hq
    refine wpAny_pyIter_list p.isList ?_
    refine ⟨s1.heap.objs.size, [s1.heap.objs.size], _, _, H1, rfl, I1.kept (t' := s1.toks) fun b o e => Heap.get?_push_of_some _ e, turn_list a _, ⟨_, Heap.get?_push_size _ rfl, rfl, rfl⟩, fun b hb => ?_, q⟩
    have e : b = s1.heap.objs.size := by simpa using hb
    subst e
    exact I1.fpOk (Nat.le_refl _) (I1.hok.fresh (Nat.le_refl _))
  · subst e
    cases r1
    obtain ⟨its, rv, p, hz⟩ := I1.tuple hq
    refine wpAny_pyIter_tuple (show s1.heap.IsTuple a its.toArray from p) ?_
    refine ⟨s1.heap.objs.size, [s1.heap.objs.size], _, _, H1, rfl, I1.kept (t' := s1.toks) fun b o e => Heap.get?_push_of_some _ e, turn_tuple a _, ⟨_, Heap.get?_push_size _ rfl, rfl, rfl⟩, fun b hb => ?_, q⟩
    have e : b = s1.heap.objs.size := by simpa using hb
    subst e
    exact I1.fpOk (Nat.le_refl _) (I1.hok.fresh (Nat.le_refl _))
  · subst e
    obtain ⟨t, rfl⟩ := r1
    cases ha : z.cps.all (· < 128)
    · exact wpAny_pyIter_wide ha (pi_one (tk := s1.toks) I1 _ (turn_str _ z t "str_iterator" (.inr rfl)) ⟨_, Heap.get?_push_size _ rfl, rfl, rfl⟩ q)
    · exact wpAny_pyIter_ascii ha (pi_one (tk := s1.toks) I1 _ (turn_str _ z t "str_ascii_iterator" (.inl rfl)) ⟨_, Heap.get?_push_size _ rfl, rfl, rfl⟩ q)
theorem wk_list {wd : Wd} {G : Gh} {H : Hp} {a : Addr} {vs : List V} {ds : List PyData} {K : PySem.W.Frag} (f : G.F a) (h : H a = some (.lst vs)) (r : RpAll G.F H vs ds) : Wk wd (Itl K a) G H ds := fun G1 H1 S1 kp ok => by
  have h1 := (kp.lst a vs f h).2
  have r1 := kp.rpAll r
  refine ⟨fun i hi => ⟨vs, .inl (.inl h1), by rw [r.length]; exact hi⟩, fun i d hd => ?_⟩
  obtain ⟨v, hv, rv⟩ := r1.getD hd
  refine ⟨⟨vs, v, .inl (.inl h1), hv⟩, fun x H2 y => ?_⟩
  obtain ⟨e, y⟩ := y
  subst e
  have := y vs (.inl (.inl h1))
  rw [hv] at this
  cases this
  exact ⟨Grow.refl ok, rv⟩
theorem wk_tup {wd : Wd} {G : Gh} {H : Hp} {a : Addr} {vs : List V} {ds : List PyData} {K : PySem.W.Frag} (h : H a = some (.tup vs)) (r : RpAll G.F H vs ds) : Wk wd (Itt K a) G H ds := fun G1 H1 S1 kp ok => by
  have h1 := kp.tup a vs h
  have r1 := kp.rpAll r
  refine ⟨fun i hi => ⟨vs, .inl (.inl h1), by rw [r.length]; exact hi⟩, fun i d hd => ?_⟩
  obtain ⟨v, hv, rv⟩ := r1.getD hd
  refine ⟨⟨vs, v, .inl (.inl h1), hv⟩, fun x H2 y => ?_⟩
  obtain ⟨e, y⟩ := y
  subst e
  have := y vs (.inl (.inl h1))
  rw [hv] at this
  cases this
  exact ⟨Grow.refl ok, rv⟩
def signs (z : Str) : List PyData := z.cps.toList.map fun c => .str ⟨#[c]⟩
theorem wk_str {wd : Wd} {G : Gh} {H : Hp} {z : Str} : Wk wd (Its z) G H (signs z) := fun G1 H1 S1 kp ok => by
  refine ⟨fun i hi => ?_, fun i d hd => ?_⟩
  · unfold signs at hi
    rw [List.length_map, Array.length_toList] at hi
    exact hi
  · unfold signs at hd
    rw [List.getElem?_map] at hd
    cases hc : z.cps.toList[i]? with
    | none => rw [hc] at hd; cases hd
    | some c =>
      rw [hc] at hd
      cases hd
      have hlt : i < z.cps.size := by
        have := (List.getElem?_eq_some_iff.mp hc).1
        rwa [Array.length_toList] at this
      refine ⟨hlt, fun x H2 y => ?_⟩
      obtain ⟨e, c', e1, e2⟩ := y
      subst e
      subst e2
      rw [Array.getElem?_toList] at hc
      rw [hc] at e1
      cases e1
      exact ⟨Grow.refl ok, .str _⟩
def itSeq (f : SemE) : SemI := fun δ S => bnd (f δ S) fun x S => match x with
  | .d (.list xs) => some (.ok xs, S)
  | .d (.tuple xs) => some (.ok xs, S)
  | .d (.str z) => some (.ok (signs z), S)
  | _ => none
section
variable {g : Gb} {W : WX} {ι : Type} {Xf : ι → Cx} {k : Nat}
theorem si_seq {tg l : Expr} {f : SemE} (F : Fm g W k Xf) (h : SE g W Xf l f) : SI g W Xf tg l (itSeq f) := by
  obtain ⟨t, p1, q1⟩ := h
  refine ⟨iSeq g.wd.K t, fun i => F.K i ▸ pi_seq (p1 i), fun G σ H δ S z S' R s0 e k1 k2 => ?_⟩
  rcases bnd_some e with ⟨u, S1, ea, e2⟩ | ⟨c, ec, ez⟩
  · refine q1 G σ H δ S _ S1 _ s0 ea (fun x ex v G1 H1 gr1 rv => ?_) (fun c ec => nomatch ec)
    cases ex
    split at e2
    · cases e2
      cases rv with
      | lst f h r => exact .inl ⟨_, rfl, ⟨_, .inl (.inl h)⟩, k1 _ rfl _ G1 H1 gr1 (wk_list f h r)⟩
    · cases e2
      cases rv with
      | tup h r => exact .inr (.inl ⟨_, rfl, ⟨_, .inl (.inl h)⟩, k1 _ rfl _ G1 H1 gr1 (wk_tup h r)⟩)
    · cases e2
      cases rv
      exact .inr (.inr ⟨_, rfl, k1 _ rfl _ G1 H1 gr1 wk_str⟩)
    · cases e2
  · subst ez
    refine q1 G σ H δ S _ S' _ s0 ec (fun xs exs => nomatch exs) (fun c' ec' G2 H2 gr2 => ?_)
    cases ec'
    exact k2 c rfl G2 H2 gr2
/-- lo, lo + 1, .., n of them -/
def intsD (lo : Int) (n : Nat) : List PyData := (List.range n).map fun (i : Nat) => PyData.int (lo + (i : Int))
theorem ints_get {lo : Int} {n i : Nat} {d : PyData} (h : (intsD lo n)[i]? = some d) : i < n ∧ d = .int (lo + (i : Int)) := by
  unfold intsD at h
  rw [List.getElem?_map] at h
  by_cases hi : i < n
  · rw [List.getElem?_range hi] at h
    cases h
    exact ⟨hi, rfl⟩
  · rw [List.getElem?_eq_none (by rw [List.length_range]; omega)] at h
    cases h
theorem ints_len (lo : Int) (n : Nat) : (intsD lo n).length = n := by
  unfold intsD
  rw [List.length_map, List.length_range]
theorem wk_range {wd : Wd} {G : Gh} {H : Hp} {lo : Int} {n : Nat} : Wk wd (Itr lo n) G H (intsD lo n) := fun G1 H1 S1 kp ok => by
  refine ⟨fun i hi => by rw [ints_len] at hi; exact hi, fun i d hd => ?_⟩
  obtain ⟨hi, rfl⟩ := ints_get hd
  refine ⟨hi, fun x H2 y => ?_⟩
  obtain ⟨e, e2⟩ := y
  subst e
  subst e2
  exact ⟨Grow.refl ok, .int _⟩
def itR1 (a : SemA) : SemI := fun δ S => bnd (a δ S) fun us S => match us with
  | [.d (.int n)] => if n.natAbs < 2 ^ 40 then some (.ok (intsD 0 n.toNat), S) else none
  | _ => none
def itR2 (a : SemA) : SemI := fun δ S => bnd (a δ S) fun us S => match us with
  | [.d (.int m), .d (.int n)] => if m.natAbs < 2 ^ 40 ∧ n.natAbs < 2 ^ 40 then some (.ok (intsD m (n - m).toNat), S) else none
  | _ => none
theorem si_range1 {tg a : Expr} {f : SemA} {p pos : Pos} (F : Fm g W k Xf) (hm : g.mg "range" = none) (h : SA g W Xf [a] f) (hg : ∀ i, Gl (Xf i) "range" := by intro _; rfl) (hs : ∀ i, starEach [a] (Xf i).env = [(false, eval a (Xf i).env)] := by intro _; rfl) :
    SI g W Xf tg (.Call (.Name "range" p) [a] [] pos) (itR1 f) := by
  obtain ⟨t, p1, q1⟩ := h
  refine ⟨iRng1 t, fun i => pi_range1 (hg i) (by rw [F.mg i]; exact hm) (p1 i) (hs i), fun G σ H δ S z S' R s0 e k1 k2 => ?_⟩
  rcases bnd_some e with ⟨u, S1, ea, e2⟩ | ⟨c, ec, ez⟩
  · refine q1 G σ H δ S _ S1 _ s0 ea (fun x ex v G1 H1 gr1 rv => ?_) (fun c ec => nomatch ec)
    cases ex
    split at e2
    · split at e2
      · rename_i hn
        cases e2
        obtain ⟨v, rfl, h⟩ := rpUs1 rv
        cases h
        exact ⟨_, rfl, by omega, by omega, k1 _ rfl _ G1 H1 gr1 wk_range⟩
      · cases e2
    · cases e2
  · subst ez
    refine q1 G σ H δ S _ S' _ s0 ec (fun xs exs => nomatch exs) (fun c' ec' G2 H2 gr2 => ?_)
    cases ec'
    exact k2 c rfl G2 H2 gr2
theorem si_range2 {tg a b : Expr} {f : SemA} {p pos : Pos} (F : Fm g W k Xf) (hm : g.mg "range" = none) (h : SA g W Xf [a, b] f) (hg : ∀ i, Gl (Xf i) "range" := by intro _; rfl)
    (hs : ∀ i, starEach [a, b] (Xf i).env = [(false, eval a (Xf i).env), (false, eval b (Xf i).env)] := by intro _; rfl) (hs2 : ∀ i, starEach [b] (Xf i).env = [(false, eval b (Xf i).env)] := by intro _; rfl) :
    SI g W Xf tg (.Call (.Name "range" p) [a, b] [] pos) (itR2 f) := by
  obtain ⟨t, p1, q1⟩ := h
  refine ⟨iRng2 t, fun i => pi_range2 (hg i) (by rw [F.mg i]; exact hm) (p1 i) (hs i) (hs2 i), fun G σ H δ S z S' R s0 e k1 k2 => ?_⟩
  rcases bnd_some e with ⟨u, S1, ea, e2⟩ | ⟨c, ec, ez⟩
  · refine q1 G σ H δ S _ S1 _ s0 ea (fun x ex v G1 H1 gr1 rv => ?_) (fun c ec => nomatch ec)
    cases ex
    split at e2
    · split at e2
      · rename_i hn
        cases e2
        obtain ⟨v, w, rfl, h1, h2⟩ := rpUs2 rv
        cases h1
        cases h2
        exact ⟨_, _, rfl, by omega, k1 _ rfl _ G1 H1 gr1 wk_range⟩
      · cases e2
    · cases e2
  · subst ez
    refine q1 G σ H δ S _ S' _ s0 ec (fun xs exs => nomatch exs) (fun c' ec' G2 H2 gr2 => ?_)
    cases ec'
    exact k2 c rfl G2 H2 gr2
/-- zip of two lists, of two tuples -/
def pairD (xs ys : List PyData) : List PyData := (xs.zip ys).map fun p => .tuple [p.1, p.2]
theorem pair_get {xs ys : List PyData} {i : Nat} {d : PyData} (h : (pairD xs ys)[i]? = some d) : ∃ x y, xs[i]? = some x ∧ ys[i]? = some y ∧ d = .tuple [x, y] := by
  unfold pairD at h
  rw [List.getElem?_map] at h
  cases hz : (xs.zip ys)[i]? with
  | none => rw [hz] at h; cases h
  | some p =>
    rw [hz] at h
    cases h
    obtain ⟨h1, h2⟩ := List.getElem?_zip_eq_some.mp hz
    exact ⟨_, _, h1, h2, rfl⟩
theorem pair_len (xs ys : List PyData) : (pairD xs ys).length = min xs.length ys.length := by
  unfold pairD
  rw [List.length_map, List.length_zip]
theorem wk_zipL {wd : Wd} {G : Gh} {H : Hp} {a b : Addr} {vs ws : List V} {ds es : List PyData} {K : PySem.W.Frag} (f : G.F a) (h : H a = some (.lst vs)) (r : RpAll G.F H vs ds) (f' : G.F b) (h' : H b = some (.lst ws)) (r' : RpAll G.F H ws es) : Wk wd (Itz K a b) G H (pairD ds es) := fun G1 H1 S1 kp ok => by
  have h1 := (kp.lst a vs f h).2
  have r1 := kp.rpAll r
  have h2 := (kp.lst b ws f' h').2
  have r2 := kp.rpAll r'
  refine ⟨fun i hi => ⟨vs, ws, .inl (.inl h1), .inl (.inl h2), ?_⟩, fun i d hd => ?_⟩
  · rw [pair_len] at hi
    rw [r.length, r'.length]
    omega
  · obtain ⟨x, y, e1, e2, rfl⟩ := pair_get hd
    obtain ⟨v, hv, rv⟩ := r1.getD e1
    obtain ⟨w, hw, rw'⟩ := r2.getD e2
    refine ⟨⟨vs, ws, v, w, .inl (.inl h1), .inl (.inl h2), hv, hw⟩, fun x H2 y => ?_⟩
    obtain ⟨T, x1, y1, rfl, hT, rfl, g1, g2⟩ := y
    have e3 := g1 vs (.inl (.inl h1))
    have e4 := g2 ws (.inl (.inl h2))
    rw [hv] at e3
    rw [hw] at e4
    cases e3
    cases e4
    exact ⟨Grow.new ok hT, .tup upd_same ((Grow.new ok hT).rpAll ok (.cons rv (.cons rw' .nil)))⟩
theorem wk_zipT {wd : Wd} {G : Gh} {H : Hp} {a b : Addr} {vs ws : List V} {ds es : List PyData} {K : PySem.W.Frag} (h : H a = some (.tup vs)) (r : RpAll G.F H vs ds) (h' : H b = some (.tup ws)) (r' : RpAll G.F H ws es) : Wk wd (RZ.ItzT K a b) G H (pairD ds es) := fun G1 H1 S1 kp ok => by
  have h1 := kp.tup a vs h
  have r1 := kp.rpAll r
  have h2 := kp.tup b ws h'
  have r2 := kp.rpAll r'
  refine ⟨fun i hi => ⟨vs, ws, .inl (.inl h1), .inl (.inl h2), ?_⟩, fun i d hd => ?_⟩
  · rw [pair_len] at hi
    rw [r.length, r'.length]
    omega
  · obtain ⟨x, y, e1, e2, rfl⟩ := pair_get hd
    obtain ⟨v, hv, rv⟩ := r1.getD e1
    obtain ⟨w, hw, rw'⟩ := r2.getD e2
    refine ⟨⟨vs, ws, v, w, .inl (.inl h1), .inl (.inl h2), hv, hw⟩, fun x H2 y => ?_⟩
    obtain ⟨T, x1, y1, rfl, hT, rfl, g1, g2⟩ := y
    have e3 := g1 vs (.inl (.inl h1))
    have e4 := g2 ws (.inl (.inl h2))
    rw [hv] at e3
    rw [hw] at e4
    cases e3
    cases e4
    exact ⟨Grow.new ok hT, .tup upd_same ((Grow.new ok hT).rpAll ok (.cons rv (.cons rw' .nil)))⟩
def itZip (a : SemA) : SemI := fun δ S => bnd (a δ S) fun us S => match us with
  | [.d (.list xs), .d (.list ys)] => some (.ok (pairD xs ys), S)
  | [.d (.tuple xs), .d (.tuple ys)] => some (.ok (pairD xs ys), S)
  | _ => none
theorem si_zip {a b : Expr} {elts : List Expr} {kk : Nat} {f : SemA} {p pos tpos : Pos} (F : Fm g W k Xf) (hm : g.mg "zip" = none) (h : SA g W Xf [a, b] f) (hg : ∀ i, Gl (Xf i) "zip" := by intro _; rfl)
    (hs : ∀ i, starEach [a, b] (Xf i).env = (false, eval a (Xf i).env) :: starEach [b] (Xf i).env := by intro _; rfl) (hpl : ∀ i, (backTo pos (starEach [b] (Xf i).env)).any (·.1) = false := by intro _; rfl) :
    SI g W Xf (.Tuple elts kk tpos) (.Call (.Name "zip" p) [a, b] [] pos) (itZip f) := by
  obtain ⟨t, p1, q1⟩ := h
  refine ⟨RZ.iZipA g.wd.K t, fun i => F.K i ▸ RZ.pi_zipA (hg i) (by rw [F.mg i]; exact hm) (p1 i) (hs i) (hpl i), fun G σ H δ S z S' R s0 e k1 k2 => ?_⟩
  rcases bnd_some e with ⟨u, S1, ea, e2⟩ | ⟨c, ec, ez⟩
  · refine q1 G σ H δ S _ S1 _ s0 ea (fun x ex v G1 H1 gr1 rv => ?_) (fun c ec => nomatch ec)
    cases ex
    split at e2
    · cases e2
      obtain ⟨v, w, rfl, h1, h2⟩ := rpUs2 rv
      cases h1 with
      | lst f1 h1 r1 =>
        cases h2 with
        | lst f2 h2 r2 => exact ⟨_, _, _, _, rfl, .inl ⟨.inl (.inl h1), .inl (.inl h2), k1 _ rfl _ G1 H1 gr1 (wk_zipL f1 h1 r1 f2 h2 r2)⟩⟩
    · cases e2
      obtain ⟨v, w, rfl, h1, h2⟩ := rpUs2 rv
      cases h1 with
      | tup h1 r1 =>
        cases h2 with
        | tup h2 r2 => exact ⟨_, _, _, _, rfl, .inr ⟨.inl (.inl h1), .inl (.inl h2), k1 _ rfl _ G1 H1 gr1 (wk_zipT h1 r1 h2 r2)⟩⟩
    · cases e2
  · subst ez
    refine q1 G σ H δ S _ S' _ s0 ec (fun xs exs => nomatch exs) (fun c' ec' G2 H2 gr2 => ?_)
    cases ec'
    exact k2 c rfl G2 H2 gr2
/-- enumerate of a list -/
def enumD (xs : List PyData) : List PyData := pairD (intsD 0 xs.length) xs
def itEnum (a : SemA) : SemI := fun δ S => bnd (a δ S) fun us S => match us with
  | [.d (.list xs)] => some (.ok (enumD xs), S)
  | _ => none
end
/-! ### targets -/
inductive Tg where
  | one (i : Nat)
  | tup (is : List Nat)
def Tg.split : Tg → PyData → Option (List (Nat × PyData))
  | .one i, d => some [(i, d)]
  | .tup is, .tuple ds => if is.length = ds.length then some (is.zip ds) else none
  | _, _ => none
def Tg.slots : Tg → List Nat
  | .one i => [i]
  | .tup is => is
def setD (δ : En) : List (Nat × PyData) → En
  | [] => δ
  | (i, d) :: r => setD (δ.set i (some (.u (.d d)))) r
def setV (σ : L2.St) : List (Nat × V) → L2.St
  | [] => σ
  | (i, v) :: r => setV (σ.set i (some v)) r
def RpP (F : Addr → Prop) (H : Hp) : List (Nat × V) → List (Nat × PyData) → Prop := Paired fun w p => w.1 = p.1 ∧ Rp F H w.2 p.2
def TgOk (t : TG) (tg : Tg) : Prop := ∀ (F : Addr → Prop) (H : Hp) (σ : L2.St) (x : V) (d : PyData) (ps : List (Nat × PyData)) (Q : L2.St → Hp → Prop), Rp F H x d → tg.split d = some ps → (∀ ws, RpP F H ws ps → Q (setV σ ws) H) → t x σ H Q
def SG (g : Gb) {ι : Type} (Xf : ι → Cx) (e : Expr) (tg : Tg) : Prop := ∃ t, (∀ i, PG (Xf i) e t) ∧ TgOk t tg
def gNames : List Nat → TGs
  | [] => gNil
  | i :: r => gCons (gName i) (gNames r)
theorem gNames_ok {F : Addr → Prop} {H : Hp} : ∀ (is : List Nat) (σ : L2.St) (vs : List V) (ds : List PyData) (Q : L2.St → Hp → Prop), RpAll F H vs ds → is.length = ds.length → (∀ ws, RpP F H ws (is.zip ds) → Q (setV σ ws) H) → gNames is vs σ H Q
  | [], σ, vs, ds, Q, r, hl, k => by
    cases r with
    | nil => exact ⟨rfl, k [] .nil⟩
    | cons _ _ => cases hl
  | i :: is, σ, vs, ds, Q, r, hl, k => by
    cases r with
    | nil => cases hl
    | cons h t => exact ⟨_, _, rfl, gNames_ok is _ _ _ Q t (by simpa using hl) fun ws hw => k ((i, _) :: ws) (.cons ⟨rfl, h⟩ hw)⟩
section
variable {g : Gb} {W : WX} {ι : Type} {Xf : ι → Cx} {k : Nat}
theorem sg_name (i : Nat) {x : Str} {pos : Pos} (F : Fm g W k Xf) (hi : ∀ j, (Xf j).N[i]? = some x := by intro _; rfl) (hx : ∀ j, Loc (Xf j).env.scope x := by first | exact fun _ => Or.inl rfl | exact fun _ => Or.inr rfl)
    (hf : ∀ j, (Xf j).fn x = true ∨ (Xf j).env.scope.names.lookup x = some .local := by first | exact fun _ => Or.inl rfl | exact fun _ => Or.inr rfl) : SG g Xf (.Name x pos) (.one i) :=
  ⟨gName i, fun j => pg_name (F.nd j) (hi j) (hx j) (hf j), fun Fp H σ v d ps Q r e q => by
    cases e
    exact q [(i, v)] (.cons ⟨rfl, r⟩ .nil)⟩
def SGs (g : Gb) {ι : Type} (Xf : ι → Cx) (es : List Expr) (is : List Nat) : Prop := ∀ i, PGs (Xf i) es (gNames is)
theorem sgs_nil : SGs g Xf [] [] := fun _ => pgs_nil
theorem sgs_cons (i : Nat) {x : Str} {pos : Pos} {es : List Expr} {is : List Nat} (F : Fm g W k Xf) (h : SGs g Xf es is) (hi : ∀ j, (Xf j).N[i]? = some x := by intro _; rfl) (hx : ∀ j, Loc (Xf j).env.scope x := by first | exact fun _ => Or.inl rfl | exact fun _ => Or.inr rfl)
    (hf : ∀ j, (Xf j).fn x = true ∨ (Xf j).env.scope.names.lookup x = some .local := by first | exact fun _ => Or.inl rfl | exact fun _ => Or.inr rfl)
    (hs : ∀ j, (assignEach (.Name x pos :: es) (Xf j).env).map (·.2) = assign (.Name x pos) (Xf j).env :: (assignEach es (Xf j).env).map (·.2) := by intro _; rfl) : SGs g Xf (.Name x pos :: es) (i :: is) :=
  fun j => pgs_cons (pg_name (F.nd j) (hi j) (hx j) (hf j)) (h j) (hs j)
theorem sg_tup {es : List Expr} {is : List Nat} {kk : Nat} {pos : Pos} (F : Fm g W k Xf) (h : SGs g Xf es is) (hn : ∀ j, (assignEach es (Xf j).env).length = is.length := by intro _; rfl)
    (hst : ∀ j, (assignEach es (Xf j).env).findIdx? (·.1) = none := by intro _; rfl) : SG g Xf (.Tuple es kk pos) (.tup is) :=
  ⟨gTup g.wd.K is.length (gNames is), fun j => F.K j ▸ pg_tup (F.calm j) (h j) (hn j) (hst j), fun Fp H σ v d ps Q r e q => by
    cases d with
    | tuple ds =>
      have e : (if is.length = ds.length then some (is.zip ds) else none) = some ps := e
      split at e
      · rename_i hl
        cases e
        cases r with
        | tup h r => exact ⟨_, _, rfl, .inl (.inl h), by rw [r.length]; exact hl.symm, gNames_ok is σ _ _ Q r hl q⟩
      · cases e
    | none => cases e
    | bool _ => cases e
    | int _ => cases e
    | str _ => cases e
    | list _ => cases e
    | dict _ => cases e⟩
end
/-! ### tests of a comprehension -/
def SQ (g : Gb) (W : WX) {ι : Type} (Xf : ι → Cx) (ifs : List Expr) (f : SemT) : Prop := ∃ t, (∀ i, PTs (Xf i) ifs t) ∧ RdT g.wd W t f
def tTrue : SemT := fun _ S => some (.ok true, S)
section
variable {g : Gb} {W : WX} {ι : Type} {Xf : ι → Cx} {k : Nat}
theorem sq_nil : SQ g W Xf [] tTrue := ⟨tYes, fun _ => pts_nil, fun G σ H δ S r S' Q s0 e q1 q2 => by
  unfold tTrue at e
  cases e
  exact q1 _ rfl G H (Grow.refl s0.ok)⟩
theorem sq_one {c : Expr} {f : SemT} (h : ST g W Xf c f) : SQ g W Xf [c] f := by
  obtain ⟨t, p1, q1⟩ := h
  exact ⟨t, fun i => pts_one (p1 i), q1⟩
end
/-! ### the family of a comprehension's block -/
abbrev W0 : WX := fun _ _ _ _ => False
def BlkI (ι : Type) : Type := ι × Shared × Hp × Addr × List (Str × Addr) × List Addr
def blkF {ι : Type} (Xf : ι → Cx) (scope : Scope) (q : BlkI ι) : Cx := (Xf q.1).blk q.2.1 q.2.2.1 scope (compEnvC scope q.2.2.2.2.1 q.2.2.2.1 (Xf q.1).env) q.2.2.2.2.2
theorem Fm.blk {g : Gb} {W : WX} {ι : Type} {Xf : ι → Cx} {k : Nat} (F : Fm g W k Xf) (scope : Scope) : Fm g W0 k (blkF Xf scope) :=
  ⟨fun q => F.prog q.1, fun q => F.w q.1, fun q => F.K q.1, fun q => F.mg q.1, fun q => F.base q.1, fun q => F.calm q.1, fun q => F.room q.1, fun _ => takes0, fun q => F.nd q.1, fun _ => PassesOwn.never⟩
def wipeE (δ : En) : List Nat → En
  | [] => δ
  | v :: vs => (wipeE δ vs).set v none
theorem wipeE_some {δ : En} {i : Nat} {x : Cell} : ∀ {vs : List Nat}, (wipeE δ vs)[i]? = some (some x) → δ[i]? = some (some x) ∧ i ∉ vs
  | [], h => ⟨h, by simp⟩
  | v :: vs, h => by
    unfold wipeE at h
    by_cases hi : v = i
    · subst hi
      by_cases hv : v < (wipeE δ vs).length
      · rw [List.getElem?_set_self hv] at h; cases h
      · rw [List.getElem?_eq_none (by simpa using hv)] at h; cases h
    · rw [List.getElem?_set_ne hi] at h
      obtain ⟨h1, h2⟩ := wipeE_some h
      exact ⟨h1, by simp only [List.mem_cons, not_or]; exact ⟨fun e => hi e.symm, h2⟩⟩
theorem wipeE_length (δ : En) : ∀ vs : List Nat, (wipeE δ vs).length = δ.length
  | [] => rfl
  | v :: vs => by unfold wipeE; rw [List.length_set, wipeE_length δ vs]
theorem St0.wipe {wd : Wd} {G : Gh} {σ : L2.St} {H : Hp} {δ : En} {S : Sto} (s : St0 wd G σ H δ S) (vs : List Nat) : St0 wd G (wipe σ vs) H (wipeE δ vs) S :=
  ⟨s.ok, fun i x e => by
    obtain ⟨h1, h2⟩ := wipeE_some e
    obtain ⟨v, e1, r⟩ := s.at_ i x h1
    exact ⟨v, by rw [wipe_out h2]; exact e1, r⟩, by rw [wipeE_length, wipe_length]; exact s.len⟩
theorem St0.set {wd : Wd} {G : Gh} {σ : L2.St} {H : Hp} {δ : En} {S : Sto} (s : St0 wd G σ H δ S) {i : Nat} {v : V} {u : U} (r : RpU wd G H v u) : St0 wd G (σ.set i (some v)) H (δ.set i (some (.u u))) S :=
  ⟨s.ok, fun j x e => by
    by_cases hj : i = j
    · subst hj
      by_cases hi : i < δ.length
      · rw [List.getElem?_set_self hi] at e
        cases e
        exact ⟨v, List.getElem?_set_self (by have := s.len; omega), r⟩
      · rw [List.getElem?_eq_none (by simpa using hi)] at e
        cases e
    · rw [List.getElem?_set_ne hj] at e
      obtain ⟨w, e1, r1⟩ := s.at_ j x e
      exact ⟨w, by rw [List.getElem?_set_ne hj]; exact e1, r1⟩, by simpa using s.len⟩
theorem St0.setAll {wd : Wd} {G : Gh} {H : Hp} {S : Sto} : ∀ {ws : List (Nat × V)} {ps : List (Nat × PyData)} {σ : L2.St} {δ : En}, St0 wd G σ H δ S → RpP G.F H ws ps → St0 wd G (setV σ ws) H (setD δ ps) S
  | _, _, _, _, s, .nil => s
  | (i, v) :: ws, (j, d) :: ps, σ, δ, s, .cons h t => by
    obtain ⟨e, r⟩ := h
    have e : i = j := e
    subst e
    exact St0.setAll (σ := σ.set i (some v)) (δ := δ.set i (some (.u (.d d)))) (s.set (i := i) (v := v) (u := .d d) r) t
theorem wipe_set {σ : L2.St} {i : Nat} {v : Option V} : ∀ {vs : List Nat}, i ∈ vs → wipe (σ.set i v) vs = wipe σ vs
  | [], h => by simp at h
  | w :: vs, h => by
    unfold wipe
    by_cases hm : i ∈ vs
    · rw [wipe_set hm]
    · have e : i = w := by
        rcases List.mem_cons.mp h with e | e
        · exact e
        · exact absurd e hm
      subst e
      have : ∀ (l : List Nat), i ∉ l → wipe (σ.set i v) l = (wipe σ l).set i v := by
        intro l
        induction l with
        | nil => intro _; rfl
        | cons a l ih =>
          intro hn
          unfold wipe
          rw [ih (fun z => hn (List.mem_cons_of_mem _ z)), List.set_comm _ _ (fun e => hn (by rw [e]; exact List.mem_cons_self))]
      rw [this vs hm, List.set_set]
theorem wipe_setV {vs : List Nat} : ∀ {ws : List (Nat × V)} {σ : L2.St}, (∀ w ∈ ws, w.1 ∈ vs) → wipe (setV σ ws) vs = wipe σ vs
  | [], _, _ => rfl
  | (i, v) :: ws, σ, h => by
    unfold setV
    rw [wipe_setV fun w hw => h w (List.mem_cons_of_mem _ hw), wipe_set (h (i, v) List.mem_cons_self)]
theorem wipe_wipe {vs : List Nat} {σ : L2.St} : wipe (wipe σ vs) vs = wipe σ vs := by
  apply List.ext_getElem?
  intro i
  by_cases h : i ∈ vs
  · have key : ∀ (l : List Nat) (τ : L2.St), i ∈ l → (wipe τ l)[i]? = if i < τ.length then some none else none := by
      intro l
      induction l with
      | nil => intro τ h; simp at h
      | cons a l ih =>
        intro τ h
        unfold wipe
        by_cases ha : a = i
        · subst ha
          by_cases hl : a < τ.length
          · rw [if_pos hl, List.getElem?_set_self (by rw [wipe_length]; exact hl)]
          · rw [if_neg hl, List.getElem?_eq_none (by rw [List.length_set, wipe_length]; omega)]
        · rw [List.getElem?_set_ne ha]
          exact ih τ (by
            rcases List.mem_cons.mp h with e | e
            · exact absurd e.symm ha
            · exact e)
    rw [key vs _ h, key vs _ h, wipe_length]
  · rw [wipe_out h, wipe_out h]
/-! ### the comprehension -/
def lcGo (tg : Tg) (test : SemT) (fe : SemE) (δ : En) : List PyData → Sto → Option (List PyData × Sto)
  | [], S => some ([], S)
  | x :: r, S => match tg.split x with
    | none => none
    | some ps => match test (setD δ ps) S with
      | some (.ok true, S1) => (match fe (setD δ ps) S1 with
        | some (.ok (.d y), S2) => (match lcGo tg test fe δ r S2 with
          | some (ys, S3) => some (y :: ys, S3)
          | none => none)
        | _ => none)
      | some (.ok false, S1) => lcGo tg test fe δ r S1
      | _ => none
def eLc (it : SemI) (vs : List Nat) (tg : Tg) (test : SemT) (fe : SemE) : SemE := fun δ S => bnd (it δ S) fun items S => if items.length ≤ LIM then (match lcGo tg test fe (wipeE δ vs) items S with
  | some (ys, S') => some (.ok (.d (.list ys)), S')
  | none => none) else none
/-- the list at D is held apart: what the data hold is G's; D grows -/
structure Apart (wd : Wd) (G1 : Gh) (H1 : Hp) (D : Addr) (G : Gh) (H : Hp) (S : Sto) (vs : List V) (acc : List PyData) : Prop where
  new : H1 D = none
  kp : Keep G1 H1 G H
  gr : Grow wd G1 H1 { G with F := fun a => G.F a ∨ a = D } H S
  ok : GOk wd G H S
  nf : ¬ G.F D
  nm : ¬ G.M D
  at_ : H D = some (.lst vs)
  ra : RpAll G.F H vs acc
section
variable {wd : Wd} {G1 G Gb : Gh} {H1 H Hb : Hp} {S S1 Sb : Sto} {D : Addr} {vs : List V} {acc : List PyData}
theorem Apart.start (ok1 : GOk wd G1 H1 S1) (hD : H1 D = none) : Apart wd G1 H1 D { G1 with F := fun a => G1.F a ∧ a ≠ D } (L2.upd H1 D (.lst [])) S1 [] [] := by
  have gn := Grow.new (o := .lst []) ok1 hD
  refine ⟨hD, ⟨fun a xs f h => ⟨⟨f, ne_of_none h hD⟩, by rw [upd_ne (ne_of_none h hD)]; exact h⟩, fun a xs h => by rw [upd_ne (ne_of_none h hD)]; exact h, fun _ h => h, fun _ t h => ⟨t.2, h⟩⟩, ?_, ?_, fun f => f.2 rfl, ?_, upd_same, .nil⟩
  · have ee : ({ G1 with F := fun a => (G1.F a ∧ a ≠ D) ∨ a = D } : Gh) = G1 := by
      obtain ⟨F1, t1, o1⟩ := G1
      show Gh.mk _ t1 o1 = Gh.mk F1 t1 o1
      congr 1
      funext a
      refine propext ⟨fun h => ?_, fun f => ?_⟩
      · rcases h with h | h
        · exact h.1
        · rw [h]; exact ok1.fresh D hD
      · by_cases h : a = D
        · exact .inr h
        · exact .inl ⟨f, h⟩
    show Grow wd G1 H1 { G1 with F := fun a => (G1.F a ∧ a ≠ D) ∨ a = D } _ _
    rw [ee]
    exact gn
  · exact gn.ok.withF _ (fun p hp => ⟨gn.ok.fresh p hp, fun z => by rw [z, upd_same] at hp; cases hp⟩) (fun a m f => gn.ok.mF a m f.1)
  · intro m
    have m : G1.M D := m
    rcases ok1.mut m with ⟨xs, e⟩ | ⟨C, dx, fs, e⟩ <;> (rw [hD] at e; cases e)
theorem Apart.grow (A : Apart wd G1 H1 D G H S vs acc) (gr : Grow wd G H Gb Hb Sb) : Apart wd G1 H1 D Gb Hb Sb vs acc := by
  have n1 : ¬ Gb.F D := fun f => A.nf (gr.sub D f)
  have n2 : ¬ Gb.M D := fun m => by
    rcases gr.mem D m with z | z
    · exact A.nm z
    · rw [A.at_] at z; cases z
  refine ⟨A.new, A.kp.trans (gr.kp A.ok), ?_, gr.ok, n1, n2, gr.same D _ A.at_ A.nm, (gr.kp A.ok).rpAll A.ra⟩
  refine A.gr.trans ⟨gr.ok.withF _ (fun p hp => .inl (gr.ok.fresh p hp)) (fun a m f => ?_), fun a f => ?_, fun a o h f => ?_, gr.same, gr.mem, gr.there, gr.ta, gr.oa⟩
  · rcases f with f | f
    · exact gr.ok.mF a m f
    · subst f
      exact n2 m
  · rcases f with f | f
    · exact .inl (gr.sub a f)
    · exact .inr f
  · rcases f with f | f
    · exact .inl (gr.keep a o h f)
    · exact .inr f
theorem Apart.app (A : Apart wd G1 H1 D G H S vs acc) {v : V} {y : PyData} (r : Rp G.F H v y) : Apart wd G1 H1 D G (L2.upd H D (.lst (vs ++ [v]))) S (vs ++ [v]) (acc ++ [y]) := by
  have ne : ∀ b o, H b = some o → b ≠ D → L2.upd H D (.lst (vs ++ [v])) b = some o := fun b o e n => by rw [upd_ne n]; exact e
  have nT : ∀ b xs, H b = some (.tup xs) → L2.upd H D (.lst (vs ++ [v])) b = some (.tup xs) := fun b xs e => ne b _ e (fun z => by rw [z, A.at_] at e; cases e)
  have kp2 : Keep G H G (L2.upd H D (.lst (vs ++ [v]))) := ⟨fun a xs f h => ⟨f, ne a _ h (fun z => A.nf (z ▸ f))⟩, nT, fun _ h => h, fun _ t h => ⟨t.2, h⟩⟩
  have ok2 := A.ok.updL (vs' := vs ++ [v]) A.at_ A.nm
  refine ⟨A.new, A.kp.trans kp2, ⟨ok2.withF _ (fun p hp => .inl (ok2.fresh p hp)) (fun a m f => ?_), A.gr.sub, A.gr.keep, fun a o h m => ne a o (A.gr.same a o h m) (ne_of_none h A.new), A.gr.mem, fun a o h => ?_, A.gr.ta, A.gr.oa⟩, ok2, A.nf, A.nm, upd_same, (kp2.rpAll A.ra).append (.cons (kp2.rp r) .nil)⟩
  · rcases f with f | f
    · exact ok2.mF a m f
    · subst f
      exact A.nm m
  · obtain ⟨o', e⟩ := A.gr.there a o h
    exact ⟨o', ne a o' e (ne_of_none h A.new)⟩
end
section
variable {g : Gb} {W : WX} {ι : Type} {Xf : ι → Cx} {k : Nat}
theorem split_slots {tg : Tg} {d : PyData} {ps : List (Nat × PyData)} (h : tg.split d = some ps) : ∀ p ∈ ps, p.1 ∈ tg.slots := by
  intro p hp
  unfold Tg.split at h
  split at h
  · cases h
    simp at hp
    rw [hp]
    simp [Tg.slots]
  · split at h
    · cases h
      exact (List.of_mem_zip hp).1
    · cases h
  · cases h
theorem rpP_slots {F : Addr → Prop} {H : Hp} : ∀ {ws : List (Nat × V)} {ps : List (Nat × PyData)}, RpP F H ws ps → ∀ w ∈ ws, ∃ p ∈ ps, w.1 = p.1 := by
  intro ws ps h
  induction h with
  | nil => intro w hw; cases hw
  | cons h t ih =>
    intro w hw
    rcases List.mem_cons.mp hw with rfl | hw
    · exact ⟨_, List.mem_cons_self, h.1⟩
    · obtain ⟨p, hp, e⟩ := ih w hw
      exact ⟨p, List.mem_cons_of_mem _ hp, e⟩
theorem rd_lc {wd : Wd} {wi : TI} {gt : TG} {tt : TT} {te : TE} {vs : List Nat} {it : SemI} {tg : Tg} {test : SemT} {fe : SemE} (hi : RdI wd W wi it) (hg : TgOk gt tg) (ht : RdT wd W0 tt test) (he : RdE wd W0 te fe) (hv : ∀ i ∈ tg.slots, i ∈ vs) :
    RdF wd W (tLc wi gt tt te vs) (eLc it vs tg test fe) := fun G σ H δ S z S' Q s0 e k1 k2 => by
  rcases bnd_some e with ⟨items, S1, ea, e2⟩ | ⟨c, ec, ez⟩
  · refine hi G σ H δ S _ S1 _ s0 ea (fun x ex J G1 H1 gr1 wk => ?_) (fun c ec => nomatch ec)
    cases ex
    split at e2
    · rename_i hlim
      split at e2
      · rename_i ys Sf hys
        cases e2
        intro D hD
        refine ⟨fun i m Hc => ∃ (Gc : Gh) (Sc : Sto) (acc rest : List PyData) (ws : List V), m = items.length - i ∧ i ≤ items.length ∧ Apart wd G1 H1 D Gc Hc Sc ws acc ∧ acc.length ≤ i ∧ lcGo tg test fe (wipeE δ vs) (items.drop i) Sc = some (rest, S') ∧ acc ++ rest = ys,
          ⟨items.length, _, S1, [], ys, [], by simp, Nat.zero_le _, Apart.start gr1.ok hD, Nat.le_refl _, by simpa using hys, rfl⟩, ?_⟩
        rintro i m Hc ⟨Gc, Sc, acc, rest, ws', rfl, hi', A, hal, hgo, hsum⟩
        have wkc := wk Gc Hc Sc A.kp A.ok
        by_cases hlt : i < items.length
        · obtain ⟨d, hd⟩ : ∃ d, items[i]? = some d := ⟨_, List.getElem?_eq_getElem hlt⟩
          have hdrop : items.drop i = d :: items.drop (i + 1) := by
            rw [List.drop_eq_getElem_cons hlt]
            rw [List.getElem?_eq_getElem hlt] at hd
            cases hd
            rfl
          obtain ⟨hgo1, hyl⟩ := wkc.2 i d hd
          refine .inr ⟨hgo1, fun Hn => ∃ (Gc : Gh) (Sc : Sto) (acc rest : List PyData) (ws : List V), Apart wd G1 H1 D Gc Hn Sc ws acc ∧ acc.length ≤ i + 1 ∧ lcGo tg test fe (wipeE δ vs) (items.drop (i + 1)) Sc = some (rest, S') ∧ acc ++ rest = ys,
            fun Hn ⟨Gc, Sc, acc, rest, ws, h1, h2, h3, h4⟩ => ⟨items.length - (i + 1), by omega, Gc, Sc, acc, rest, ws, rfl, hlt, h1, h2, h3, h4⟩, fun x H2 y => ?_⟩
          obtain ⟨gr2, rx⟩ := hyl x H2 y
          rw [hdrop] at hgo
          unfold lcGo at hgo
          split at hgo
          · cases hgo
          · rename_i ps hps
            refine hg Gc.F H2 (wipe σ vs) x d ps _ rx hps fun ws hws => ?_
            have hslots : ∀ w ∈ ws, w.1 ∈ vs := fun w hw => by
              obtain ⟨p, hp, e⟩ := rpP_slots hws w hw
              rw [e]
              exact hv _ (split_slots hps p hp)
            refine ⟨by rw [wipe_setV hslots, wipe_wipe], ?_⟩
            have A2 := A.grow gr2
            have sb : St0 wd Gc (wipe σ vs) H2 (wipeE δ vs) Sc := by
              have s1 := (s0.grow gr1).wipe vs
              refine ⟨gr2.ok, fun j u e => ?_, s1.len⟩
              obtain ⟨v, e1, r1⟩ := s1.at_ j u e
              exact ⟨v, e1, A2.kp.rpU r1⟩
            have s2 := sb.setAll hws
            split at hgo
            · rename_i S1' htest
              refine ht Gc _ H2 _ Sc _ S1' _ s2 htest (fun b eb G3 H3 gr3 => ?_) (fun c ec => nomatch ec)
              cases eb
              rw [if_pos rfl]
              split at hgo
              · rename_i y S2' hfe
                split at hgo
                · rename_i ys2 S3' hrest
                  cases hgo
                  refine he G3 _ H3 _ S1' _ S2' _ (s2.grow gr3) hfe (fun u eu v G4 H4 gr4 rv => ?_) (fun c ec => nomatch ec)
                  cases eu
                  have A4 := (A2.grow gr3).grow gr4
                  have hlen' := A4.ra.length
                  refine ⟨_, A4.at_, ?_, G4, S2', acc ++ [y], ys2, _, A4.app rv, ?_, hrest, ?_⟩
                  · rw [hlen']
                    have : acc.length < LIM := by omega
                    exact Nat.lt_of_lt_of_le this (by decide)
                  · rw [List.length_append]
                    show acc.length + 1 ≤ i + 1
                    omega
                  · rw [← hsum]
                    simp
                · cases hgo
              · cases hgo
            · rename_i S1' htest
              refine ht Gc _ H2 _ Sc _ S1' _ s2 htest (fun b eb G3 H3 gr3 => ?_) (fun c ec => nomatch ec)
              cases eb
              rw [if_neg Bool.false_ne_true]
              exact ⟨G3, S1', acc, rest, ws', A2.grow gr3, by omega, hgo, hsum⟩
            · cases hgo
        · have hi2 : i = items.length := by omega
          subst hi2
          rw [List.drop_length] at hgo
          cases hgo
          rw [List.append_nil] at hsum
          subst hsum
          refine .inl ⟨wkc.1 _ (Nat.le_refl _), k1 acc rfl D ws' { Gc with F := fun a => Gc.F a ∨ a = D } Hc (gr1.none_of hD) (Or.inr rfl) (gr1.trans A.gr) A.at_ ?_⟩
          refine RpAll.move (fun a xs f r => ⟨⟨.inl f, fun z => A.nf (z ▸ f)⟩, r⟩) (fun a xs r => r) _ _ A.ra
      · cases e2
    · cases e2
  · subst ez
    refine hi G σ H δ S _ S' _ s0 ec (fun xs exs => nomatch exs) (fun c' ec' G2 H2 gr2 => ?_)
    cases ec'
    exact k2 c rfl G2 H2 gr2
theorem sf_lc {elt tg iter : Expr} {ifs : List Expr} {scope : Scope} {pos : Pos} {it : SemI} {tgs : Tg} {test : SemT} {fe : SemE} (own : List (Str × Nat)) (N : List Str) (F : Fm g W k Xf) (hi : SI g W Xf tg iter it)
    (hg : SG g (blkF Xf scope) tg tgs) (ht : SQ g W0 (blkF Xf scope) ifs test) (he : SE g W0 (blkF Xf scope) elt fe) (hb : ∀ i, blkC N (Xf i).env.scope scope own = true := by intro _; kernel_rfl) (hN : ∀ i, (Xf i).N = N := by intro _; rfl)
    (hv : (tgs.slots.all fun i => (own.map (·.2)).contains i) = true := by decide) (hs : ∀ i x, foldedSetIterable iter (Xf i).env x = pure x := by intro _ _; rfl) :
    SF g W Xf (.ListComp elt [⟨tg, iter, ifs, 0⟩] scope pos) (eLc it (own.map (·.2)) tgs test fe) := by
  obtain ⟨wi, i1, i2⟩ := hi
  obtain ⟨gt, g1, g2⟩ := hg
  obtain ⟨tt, t1, t2⟩ := ht
  obtain ⟨te, e1, e2⟩ := he
  refine ⟨tLc wi gt tt te (own.map (·.2)), fun i => pe_lc (F.calm i) (F.nd i) (i1 i) ?_ (fun s H C cl fp => g1 (i, s, H, C, cl, fp)) (fun s H C cl fp => t1 (i, s, H, C, cl, fp)) (fun s H C cl fp => e1 (i, s, H, C, cl, fp)) (hs i), rd_lc i2 g2 t2 e2 fun i hi => ?_⟩
  · rw [hN i]
    exact blkOk_by (hb i)
  · exact List.contains_iff_mem.mp (List.all_eq_true.mp hv i hi)
end
end DL
set_option maxHeartbeats 1000000
/-! The data layer: statements. -/
namespace DL
open PySem L2 PySem.W PySem.SeqAt
inductive Fl where
  | nx
  | rt (u : U)
  | ex (c : Nat)
abbrev SemS := En → Sto → Option (Fl × En × Sto)
/-- a def's body at work: G0, H0 at its entry -/
structure StJ (wd : Wd) (G0 : Gh) (H0 : Hp) (G : Gh) (σ : L2.St) (H : Hp) (δ : En) (S : Sto) : Prop where
  fr0 : ∀ p, H0 p = none → G0.F p
  fr : Grow wd G0 H0 G H S
  at_ : ∀ (i : Nat) (x : U), δ[i]? = some (some (.u x)) → ∃ v, σ[i]? = some (some v) ∧ RpU wd G H v x
  own : ∀ (i : Nat) (xs : List PyData), δ[i]? = some (some (.own xs)) → ∃ a vs, σ[i]? = some (some (.ref a)) ∧ H a = some (.lst vs) ∧ RpAll G.F H vs xs ∧ ¬ G.F a ∧ ¬ G.M a ∧ H0 a = none
  ap : ∀ (i j : Nat) (xs ys : List PyData) (a : Addr), δ[i]? = some (some (.own xs)) → δ[j]? = some (some (.own ys)) → σ[i]? = some (some (.ref a)) → σ[j]? = some (some (.ref a)) → i = j
  len : δ.length ≤ σ.length
section
variable {wd : Wd} {G0 G G' : Gh} {σ : L2.St} {H0 H H' : Hp} {δ : En} {S S' : Sto}
theorem StJ.ok (s : StJ wd G0 H0 G σ H δ S) : GOk wd G H S := s.fr.ok
theorem StJ.st0 (s : StJ wd G0 H0 G σ H δ S) : St0 wd G σ H δ S := ⟨s.ok, s.at_, s.len⟩
theorem StJ.grow (s : StJ wd G0 H0 G σ H δ S) (gr : Grow wd G H G' H' S') : StJ wd G0 H0 G' σ H' δ S' := by
  refine ⟨s.fr0, s.fr.trans gr, fun i x e => ?_, fun i xs e => ?_, s.ap, s.len⟩
  · obtain ⟨v, e1, r⟩ := s.at_ i x e
    exact ⟨v, e1, gr.rpU s.ok r⟩
  · obtain ⟨a, vs, e1, e2, r, nf, nm, n0⟩ := s.own i xs e
    refine ⟨a, vs, e1, gr.same a _ e2 nm, gr.rpAll s.ok r, fun f => nf (gr.sub a f), fun m => ?_, n0⟩
    rcases gr.mem a m with z | z
    · exact nm z
    · rw [e2] at z; cases z
/-! ### own lists read -/
def borC : Cell → Cell
  | .own xs => .u (.d (.list xs))
  | c => c
def bor (δ : En) : En := δ.map (Option.map borC)
def OwnA (σ : L2.St) (δ : En) (a : Addr) : Prop := ∃ (i : Nat) (xs : List PyData), δ[i]? = some (some (.own xs)) ∧ σ[i]? = some (some (.ref a))
def Gh.bor (G : Gh) (σ : L2.St) (δ : En) : Gh := { G with F := fun a => G.F a ∨ OwnA σ δ a }
def Gh.unbor (G : Gh) (σ : L2.St) (δ : En) : Gh := { G with F := fun a => G.F a ∧ ¬ OwnA σ δ a }
theorem StJ.ownA (s : StJ wd G0 H0 G σ H δ S) {a : Addr} (h : OwnA σ δ a) : (∃ vs, H a = some (.lst vs)) ∧ ¬ G.F a ∧ ¬ G.M a ∧ H0 a = none := by
  obtain ⟨i, xs, e1, e2⟩ := h
  obtain ⟨b, vs, f1, f2, _, f3, f4, f5⟩ := s.own i xs e1
  rw [e2] at f1
  cases f1
  exact ⟨⟨vs, f2⟩, f3, f4, f5⟩
theorem StJ.bor (s : StJ wd G0 H0 G σ H δ S) : St0 wd (G.bor σ δ) σ H (bor δ) S := by
  refine ⟨s.ok.withF _ (fun p hp => .inl (s.ok.fresh p hp)) (fun a m f => ?_), fun i x e => ?_, by unfold DL.bor; rw [List.length_map]; exact s.len⟩
  · rcases f with f | f
    · exact s.ok.mF a m f
    · exact (s.ownA f).2.2.1 m
  · unfold DL.bor at e
    rw [List.getElem?_map] at e
    cases hc : δ[i]? with
    | none => rw [hc] at e; cases e
    | some o =>
      rw [hc] at e
      cases o with
      | none => cases e
      | some c =>
        cases c with
        | u y =>
          cases e
          obtain ⟨v, e1, r⟩ := s.at_ i _ hc
          refine ⟨v, e1, ?_⟩
          cases x with
          | d z => exact Rp.move (fun a xs f r => ⟨.inl f, r⟩) (fun a xs r => r) _ _ r
          | sc => exact r
          | tw => exact r
          | o k => exact r
          | x c => exact r
        | own xs =>
          cases e
          obtain ⟨a, vs, e1, e2, r, nf, nm, n0⟩ := s.own i xs hc
          exact ⟨.ref a, e1, .lst (.inr ⟨i, xs, hc, e1⟩) e2 (RpAll.move (fun a xs f r => ⟨.inl f, r⟩) (fun a xs r => r) _ _ r)⟩
/-- behind a reading of own lists -/
theorem StJ.unbor (s : StJ wd G0 H0 G σ H δ S) {Gb : Gh} (gr : Grow wd (G.bor σ δ) H Gb H' S') : StJ wd G0 H0 (Gb.unbor σ δ) σ H' δ S' ∧ Keep G H (Gb.unbor σ δ) H' ∧ Grow wd G0 H0 Gb H' S' := by
  have okb := s.bor.ok
  have kp : Keep G H (Gb.unbor σ δ) H' := by
    refine ⟨fun a xs f h => ?_, fun a xs h => gr.tup okb h, gr.ta, gr.oa⟩
    have := gr.lst okb (a := a) (.inl f) h
    exact ⟨⟨this.1, fun o => (s.ownA o).2.1 f⟩, this.2⟩
  have okU : GOk wd (Gb.unbor σ δ) H' S' := gr.ok.withF _ (fun p hp => ⟨gr.ok.fresh p hp, fun o => by
    obtain ⟨⟨vs, e⟩, _⟩ := s.ownA o
    obtain ⟨o', e'⟩ := gr.there p _ e
    rw [hp] at e'; cases e'⟩) (fun a m f => gr.ok.mF a m f.1)
  have same : ∀ a o, H0 a = some o → ¬ G0.M a → H' a = some o := fun a o h m => gr.same a o (s.fr.same a o h m) fun m1 => by
    rcases s.fr.mem a m1 with z | z
    · exact m z
    · rw [h] at z; cases z
  have mem : ∀ a, Gb.M a → G0.M a ∨ H0 a = none := fun a m => by
    rcases gr.mem a m with z | z
    · exact s.fr.mem a z
    · exact .inr (s.fr.none_of z)
  have there : ∀ a o, H0 a = some o → ∃ o', H' a = some o' := fun a o h => by
    obtain ⟨o1, e1⟩ := s.fr.there a o h
    exact gr.there a o1 e1
  have oa : ∀ (k : Nat) (t : Addr × Addr), G0.oa[k]? = some t → ∃ l, Gb.oa[k]? = some (t.1, l) := fun k t h => by
    obtain ⟨l, e⟩ := s.fr.oa k t h
    exact gr.oa k (t.1, l) e
  have keepB : ∀ a o, H0 a = some o → G0.F a → Gb.F a := fun a o h f => by
    obtain ⟨o1, e1⟩ := s.fr.there a o h
    exact gr.keep a o1 e1 (.inl (s.fr.keep a o h f))
  refine ⟨⟨s.fr0, ⟨okU, fun a f => ?_, fun a o h f => ⟨keepB a o h f, fun z => ?_⟩, same, mem, there, fun a h => gr.ta a (s.fr.ta a h), oa⟩, fun i x e => ?_, fun i xs e => ?_, s.ap, s.len⟩, kp, ⟨gr.ok, fun a f => ?_, keepB, same, mem, there, fun a h => gr.ta a (s.fr.ta a h), oa⟩⟩
  · rcases gr.sub a f.1 with z | z
    · exact s.fr.sub a z
    · exact absurd z f.2
  · have := (s.ownA z).2.2.2
    rw [h] at this; cases this
  · obtain ⟨v, e1, r⟩ := s.at_ i x e
    exact ⟨v, e1, kp.rpU r⟩
  · obtain ⟨a, vs, e1, e2, r, nf, nm, n0⟩ := s.own i xs e
    refine ⟨a, vs, e1, gr.same a _ e2 nm, kp.rpAll r, fun f => f.2 ⟨i, xs, e, e1⟩, fun m => ?_, n0⟩
    rcases gr.mem a m with z | z
    · exact nm z
    · rw [e2] at z; cases z
  · rcases gr.sub a f with z | z
    · exact s.fr.sub a z
    · exact s.fr0 a (s.ownA z).2.2.2
def noLstU : U → Bool
  | .d x => noLst x
  | _ => true
theorem rpU_flat {Gb : Gh} {v : V} {u : U} (h : noLstU u = true) (r : RpU wd Gb H v u) : RpU wd (Gb.unbor σ δ) H v u := by
  cases u with
  | d x => exact Rp.flat (fun a xs r => r) _ _ h r
  | sc => exact r
  | tw => exact r
  | o k => exact r
  | x c => exact r
end
section
variable (wd : Wd) (W : WX)
def RdS (t : TS) (f : SemS) : Prop := ∀ (G0 : Gh) (H0 : Hp) (G : Gh) (σ : L2.St) (H : Hp) (δ : En) (S : Sto) (fl : Fl) (δ' : En) (S' : Sto) (D : Ends), StJ wd G0 H0 G σ H δ S → f δ S = some (fl, δ', S') →
  (fl = .nx → ∀ G' σ' H', σ'.length = σ.length → StJ wd G0 H0 G' σ' H' δ' S' → Keep G H G' H' → D.nx σ' H') →
  (∀ u, fl = .rt u → ∀ v G' H', Grow wd G0 H0 G' H' S' → RpU wd G' H' v u → D.rt v H') →
  (∀ c, fl = .ex c → ∀ σ' G' H', σ'.length = σ.length → Grow wd G0 H0 G' H' S' → W (.ref (wd.ca c)) none σ' H') → t D σ H
end
section
variable (g : Gb) (W : WX) {ι : Type} (Xf : ι → Cx)
def SS (st : Stmt) (f : SemS) : Prop := ∃ t, (∀ i, PS (Xf i) st t) ∧ RdS g.wd W t f
def SSs (st : List Stmt) (f : SemS) : Prop := ∃ t, (∀ i, PSs (Xf i) st t) ∧ RdS g.wd W t f
end
section
variable {g : Gb} {W : WX} {ι : Type} {Xf : ι → Cx} {k : Nat}
/-- an expression evaluated as it stands -/
theorem evN {wd : Wd} {t : TE} {f : SemE} (h : RdE wd W t f) {G0 G : Gh} {σ : L2.St} {H0 H : Hp} {δ : En} {S S' : Sto} {r : Except Nat U} {Q : VK} (s : StJ wd G0 H0 G σ H δ S) (e : f δ S = some (r, S'))
    (k1 : ∀ u, r = .ok u → ∀ v G' H', StJ wd G0 H0 G' σ H' δ S' → Keep G H G' H' → RpU wd G' H' v u → Q v H') (k2 : ∀ c, r = .error c → ∀ G' H', Grow wd G0 H0 G' H' S' → W (.ref (wd.ca c)) none σ H') : t σ H Q :=
  h G σ H δ S r S' Q s.st0 e (fun u eu v G' H' gr rv => k1 u eu v G' H' (s.grow gr) (gr.kp s.ok) rv) (fun c ec G' H' gr => k2 c ec G' H' (s.fr.trans gr))
/-- .. with the own lists read -/
theorem evB {wd : Wd} {t : TE} {f : SemE} (h : RdE wd W t f) {G0 G : Gh} {σ : L2.St} {H0 H : Hp} {δ : En} {S S' : Sto} {r : Except Nat U} {Q : VK} (s : StJ wd G0 H0 G σ H δ S) (e : f (bor δ) S = some (r, S'))
    (k1 : ∀ u, r = .ok u → ∀ v G' H' Gb, StJ wd G0 H0 G' σ H' δ S' → Keep G H G' H' → Grow wd G0 H0 Gb H' S' → RpU wd Gb H' v u → (noLstU u = true → RpU wd G' H' v u) → Q v H') (k2 : ∀ c, r = .error c → ∀ G' H', Grow wd G0 H0 G' H' S' → W (.ref (wd.ca c)) none σ H') : t σ H Q :=
  h (G.bor σ δ) σ H (bor δ) S r S' Q s.bor e (fun u eu v Gb H' gr rv => by
    obtain ⟨s', kp, g0⟩ := s.unbor gr
    exact k1 u eu v _ H' Gb s' kp g0 rv (fun hn => rpU_flat hn rv)) (fun c ec Gb H' gr => by
    obtain ⟨s', kp, g0⟩ := s.unbor gr
    exact k2 c ec Gb H' g0)
theorem evT {wd : Wd} {t : TT} {f : SemT} (h : RdT wd W t f) {G0 G : Gh} {σ : L2.St} {H0 H : Hp} {δ : En} {S S' : Sto} {r : Except Nat Bool} {Q : Bool → Hp → Prop} (s : StJ wd G0 H0 G σ H δ S) (e : f (bor δ) S = some (r, S'))
    (k1 : ∀ b, r = .ok b → ∀ G' H', StJ wd G0 H0 G' σ H' δ S' → Keep G H G' H' → Q b H') (k2 : ∀ c, r = .error c → ∀ G' H', Grow wd G0 H0 G' H' S' → W (.ref (wd.ca c)) none σ H') : t σ H Q :=
  h (G.bor σ δ) σ H (bor δ) S r S' Q s.bor e (fun b eb Gb H' gr => by
    obtain ⟨s', kp, g0⟩ := s.unbor gr
    exact k1 b eb _ H' s' kp) (fun c ec Gb H' gr => by
    obtain ⟨s', kp, g0⟩ := s.unbor gr
    exact k2 c ec Gb H' g0)
/-! ### blocks -/
def sNil : SemS := fun δ S => some (.nx, δ, S)
def sSeq (s1 s2 : SemS) : SemS := fun δ S => match s1 δ S with
  | some (.nx, δ1, S1) => s2 δ1 S1
  | r => r
theorem ss_nil : SSs g W Xf [] sNil := ⟨tNext, fun _ => pss_nil, fun G0 H0 G σ H δ S fl δ' S' D s e k1 k2 k3 => by
  unfold sNil at e
  cases e
  exact k1 rfl G σ H rfl s Keep.refl⟩
theorem ss_cons {st : Stmt} {rest : List Stmt} {s1 s2 : SemS} (h1 : SS g W Xf st s1) (h2 : SSs g W Xf rest s2) : SSs g W Xf (st :: rest) (sSeq s1 s2) := by
  obtain ⟨t, p1, q1⟩ := h1
  obtain ⟨u, p2, q2⟩ := h2
  refine ⟨L2.tSeq t u, fun i => pss_cons (p1 i) (p2 i), fun G0 H0 G σ H δ S fl δ' S' D s e k1 k2 k3 => ?_⟩
  unfold sSeq at e
  split at e
  · rename_i δ1 S1 h1
    refine q1 G0 H0 G σ H δ S _ δ1 S1 { D with nx := u D } s h1 (fun _ G1 σ1 H1 l1 s1 kp1 => ?_) (fun u z => nomatch z) (fun c z => nomatch z)
    exact q2 G0 H0 G1 σ1 H1 δ1 S1 fl δ' S' D s1 e (fun z G2 σ2 H2 l2 s2 kp2 => k1 z G2 σ2 H2 (l2.trans l1) s2 (kp1.trans kp2)) k2 (fun c z σ2 G2 H2 l2 gr => k3 c z σ2 G2 H2 (l2.trans l1) gr)
  · rename_i hne
    refine q1 G0 H0 G σ H δ S fl δ' S' { D with nx := u D } s e (fun z => ?_) k2 k3
    subst z
    exact absurd e (hne δ' S')
/-! ### return, if, expressions -/
def sRet (f : SemE) : SemS := fun δ S => match f (bor δ) S with
  | some (.ok u, S') => some (.rt u, δ, S')
  | some (.error c, S') => some (.ex c, δ, S')
  | none => none
theorem ss_ret {e : Expr} {f : SemE} {pos : Pos} (h : SE g W Xf e f) : SS g W Xf (.Return (some e) pos) (sRet f) := by
  obtain ⟨t, p1, q1⟩ := h
  refine ⟨tRet t, fun i => ps_ret (p1 i), fun G0 H0 G σ H δ S fl δ' S' D s e k1 k2 k3 => ?_⟩
  unfold sRet at e
  split at e
  · rename_i u S1 h1
    cases e
    refine evB q1 s h1 (fun u' eu v G' H' Gb s' kp gr rv _ => ?_) (fun c z => nomatch z)
    cases eu
    exact k2 u rfl v Gb H' gr rv
  · rename_i c S1 h1
    cases e
    refine evB q1 s h1 (fun u' eu => nomatch eu) (fun c' z G' H' gr => ?_)
    cases z
    exact k3 c rfl σ G' H' rfl gr
  · cases e
def sIf (c : SemT) (s1 s2 : SemS) : SemS := fun δ S => match c (bor δ) S with
  | some (.ok true, S') => s1 δ S'
  | some (.ok false, S') => s2 δ S'
  | some (.error c, S') => some (.ex c, δ, S')
  | none => none
theorem ss_if {c : Expr} {b1 b2 : List Stmt} {f : SemT} {s1 s2 : SemS} {pos : Pos} (hc : ST g W Xf c f) (h1 : SSs g W Xf b1 s1) (h2 : SSs g W Xf b2 s2) : SS g W Xf (.If c b1 b2 pos) (sIf f s1 s2) := by
  obtain ⟨t, p1, q1⟩ := hc
  obtain ⟨u, p2, q2⟩ := h1
  obtain ⟨w, p3, q3⟩ := h2
  refine ⟨tIfS t u w, fun i => ps_if (p1 i) (p2 i) (p3 i), fun G0 H0 G σ H δ S fl δ' S' D s e k1 k2 k3 => ?_⟩
  unfold sIf at e
  split at e
  · rename_i S1 hb
    refine evT q1 s hb (fun b eb G1 H1 s1 kp => ?_) (fun c z => nomatch z)
    cases eb
    rw [if_pos rfl]
    exact q2 G0 H0 G1 σ H1 δ S1 fl δ' S' D s1 e (fun z G2 σ2 H2 l2 s2 kp2 => k1 z G2 σ2 H2 l2 s2 (kp.trans kp2)) k2 k3
  · rename_i S1 hb
    refine evT q1 s hb (fun b eb G1 H1 s1 kp => ?_) (fun c z => nomatch z)
    cases eb
    rw [if_neg Bool.false_ne_true]
    exact q3 G0 H0 G1 σ H1 δ S1 fl δ' S' D s1 e (fun z G2 σ2 H2 l2 s2 kp2 => k1 z G2 σ2 H2 l2 s2 (kp.trans kp2)) k2 k3
  · rename_i c S1 hb
    cases e
    refine evT q1 s hb (fun b eb => nomatch eb) (fun c' z G' H' gr => ?_)
    cases z
    exact k3 c rfl σ G' H' rfl gr
  · cases e
def sExpr (f : SemE) : SemS := fun δ S => match f (bor δ) S with
  | some (.ok _, S') => some (.nx, δ, S')
  | some (.error c, S') => some (.ex c, δ, S')
  | none => none
theorem ss_expr {e : Expr} {f : SemE} {pos : Pos} (h : SE g W Xf e f) (hs : ∀ i, swapsWith e none pos.line (Xf i).env = pure false := by intro _; rfl) : SS g W Xf (.Expr e pos) (sExpr f) := by
  obtain ⟨t, p1, q1⟩ := h
  refine ⟨tDrop t, fun i => ps_expr (p1 i) (hs i), fun G0 H0 G σ H δ S fl δ' S' D s e k1 k2 k3 => ?_⟩
  unfold sExpr at e
  split at e
  · rename_i u S1 h1
    cases e
    refine evB q1 s h1 (fun u' eu v G' H' Gb s' kp gr rv _ => ?_) (fun c z => nomatch z)
    exact k1 rfl G' σ H' rfl s' kp
  · rename_i c S1 h1
    cases e
    refine evB q1 s h1 (fun u' eu => nomatch eu) (fun c' z G' H' gr => ?_)
    cases z
    exact k3 c rfl σ G' H' rfl gr
  · cases e
/-! ### a name bound -/
section
variable {wd : Wd} {G0 G G' : Gh} {σ : L2.St} {H0 H H' : Hp} {δ : En} {S S' : Sto}
theorem getset {α : Type} {l : List α} {i j : Nat} {x y : α} (h : (l.set i x)[j]? = some y) : (i = j ∧ i < l.length ∧ x = y) ∨ (i ≠ j ∧ l[j]? = some y) := by
  by_cases e : i = j
  · subst e
    by_cases hl : i < l.length
    · rw [List.getElem?_set_self hl] at h
      cases h
      exact .inl ⟨rfl, hl, rfl⟩
    · rw [List.getElem?_eq_none (by simpa using hl)] at h
      cases h
  · rw [List.getElem?_set_ne e] at h
    exact .inr ⟨e, h⟩
theorem StJ.setU (s : StJ wd G0 H0 G σ H δ S) {i : Nat} {v : V} {u : U} (r : RpU wd G H v u) : StJ wd G0 H0 G (σ.set i (some v)) H (δ.set i (some (.u u))) S := by
  refine ⟨s.fr0, s.fr, fun j x e => ?_, fun j xs e => ?_, fun j l xs ys a e1 e2 e3 e4 => ?_, by simpa using s.len⟩
  · rcases getset e with ⟨rfl, hl, e⟩ | ⟨hn, e⟩
    · cases e
      exact ⟨v, List.getElem?_set_self (by have := s.len; omega), r⟩
    · obtain ⟨w, e1, r1⟩ := s.at_ j x e
      exact ⟨w, by rw [List.getElem?_set_ne hn]; exact e1, r1⟩
  · rcases getset e with ⟨rfl, hl, e⟩ | ⟨hn, e⟩
    · cases e
    · obtain ⟨a, vs, e1, rest⟩ := s.own j xs e
      exact ⟨a, vs, by rw [List.getElem?_set_ne hn]; exact e1, rest⟩
  · rcases getset e1 with ⟨rfl, hl, e⟩ | ⟨hn, e1⟩
    · cases e
    · rcases getset e2 with ⟨rfl, hl, e⟩ | ⟨hn2, e2⟩
      · cases e
      · rw [List.getElem?_set_ne hn] at e3
        rw [List.getElem?_set_ne hn2] at e4
        exact s.ap j l xs ys a e1 e2 e3 e4
/-- an own list is changed -/
theorem StJ.updOwn (s : StJ wd G0 H0 G σ H δ S) {i : Nat} {a : Addr} {vs vs' : List V} {xs xs' : List PyData} (hi : δ[i]? = some (some (.own xs))) (ha : σ[i]? = some (some (.ref a))) (hl : H a = some (.lst vs)) (r : RpAll G.F H vs' xs') :
    StJ wd G0 H0 G σ (upd H a (.lst vs')) (δ.set i (some (.own xs'))) S ∧ Keep G H G (upd H a (.lst vs')) := by
  obtain ⟨_, nf, nm, n0⟩ := s.ownA ⟨i, xs, hi, ha⟩
  have ne : ∀ b o, H b = some o → b ≠ a → upd H a (.lst vs') b = some o := fun b o e n => by rw [upd_ne n]; exact e
  have kp : Keep G H G (upd H a (.lst vs')) := ⟨fun b ys f h => ⟨f, ne b _ h (fun z => nf (z ▸ f))⟩, fun b ys h => ne b _ h (fun z => by rw [z, hl] at h; cases h), fun _ h => h, fun _ t h => ⟨t.2, h⟩⟩
  have ok2 := s.ok.updL (vs' := vs') hl nm
  refine ⟨⟨s.fr0, ⟨ok2, s.fr.sub, s.fr.keep, fun b o h m => ne b o (s.fr.same b o h m) (ne_of_none h n0), s.fr.mem, fun b o h => ?_, s.fr.ta, s.fr.oa⟩, fun j x e => ?_, fun j ys e => ?_, fun j l ys zs b e1 e2 e3 e4 => ?_, by simpa using s.len⟩, kp⟩
  · obtain ⟨o', e⟩ := s.fr.there b o h
    exact ⟨o', ne b o' e (ne_of_none h n0)⟩
  · rcases getset e with ⟨rfl, hl, e⟩ | ⟨hn, e⟩
    · cases e
    · obtain ⟨w, e1, r1⟩ := s.at_ j x e
      exact ⟨w, e1, kp.rpU r1⟩
  · rcases getset e with ⟨rfl, hl', e⟩ | ⟨hn, e⟩
    · cases e
      exact ⟨a, vs', ha, upd_same, kp.rpAll r, nf, nm, n0⟩
    · obtain ⟨b, ws, e1, e2, r1, nf', nm', n0'⟩ := s.own j ys e
      have hba : b ≠ a := fun z => hn (s.ap i j xs ys a hi e ha (z ▸ e1))
      exact ⟨b, ws, e1, ne b _ e2 hba, kp.rpAll r1, nf', nm', n0'⟩
  · have f1 : ∃ us, δ[j]? = some (some (.own us)) := by
      rcases getset e1 with ⟨rfl, hl, e⟩ | ⟨hn, e1⟩
      · exact ⟨xs, hi⟩
      · exact ⟨_, e1⟩
    have f2 : ∃ us, δ[l]? = some (some (.own us)) := by
      rcases getset e2 with ⟨rfl, hl, e⟩ | ⟨hn, e2⟩
      · exact ⟨xs, hi⟩
      · exact ⟨_, e2⟩
    obtain ⟨u1, f1⟩ := f1
    obtain ⟨u2, f2⟩ := f2
    exact s.ap j l u1 u2 b f1 f2 e3 e4
/-- an own list becomes data -/
def frz (i : Nat) (δ : En) : En := match δ[i]? with
  | some (some (.own xs)) => δ.set i (some (.u (.d (.list xs))))
  | _ => δ
theorem StJ.frz (s : StJ wd G0 H0 G σ H δ S) (i : Nat) : ∃ G', StJ wd G0 H0 G' σ H (frz i δ) S ∧ Keep G H G' H := by
  unfold DL.frz
  split
  · rename_i xs hi
    obtain ⟨a, vs, ha, hl, r, nf, nm, n0⟩ := s.own i xs hi
    have kp : Keep G H { G with F := fun b => G.F b ∨ b = a } H := ⟨fun b ys f h => ⟨.inl f, h⟩, fun b ys h => h, fun _ h => h, fun _ t h => ⟨t.2, h⟩⟩
    refine ⟨{ G with F := fun b => G.F b ∨ b = a }, ⟨s.fr0, ⟨s.ok.withF _ (fun p hp => .inl (s.ok.fresh p hp)) (fun b m f => ?_), fun b f => ?_, fun b o h f => .inl (s.fr.keep b o h f), s.fr.same, s.fr.mem, s.fr.there, s.fr.ta, s.fr.oa⟩, fun j x e => ?_, fun j ys e => ?_, fun j l ys zs b e1 e2 e3 e4 => ?_, by simpa using s.len⟩, kp⟩
    · rcases f with f | f
      · exact s.ok.mF b m f
      · exact nm (f ▸ m)
    · rcases f with f | f
      · exact s.fr.sub b f
      · rw [f]; exact s.fr0 a n0
    · rcases getset e with ⟨rfl, hl', e⟩ | ⟨hn, e⟩
      · cases e
        exact ⟨.ref a, ha, .lst (.inr rfl) hl (kp.rpAll r)⟩
      · obtain ⟨w, e1, r1⟩ := s.at_ j x e
        exact ⟨w, e1, kp.rpU r1⟩
    · rcases getset e with ⟨rfl, hl', e⟩ | ⟨hn, e⟩
      · cases e
      · obtain ⟨b, ws, e1, e2, r1, nf', nm', n0'⟩ := s.own j ys e
        refine ⟨b, ws, e1, e2, kp.rpAll r1, fun f => ?_, nm', n0'⟩
        rcases f with f | f
        · exact nf' f
        · exact hn (s.ap i j xs ys a hi e ha (f ▸ e1))
    · rcases getset e1 with ⟨rfl, hl, e⟩ | ⟨hn, e1⟩
      · cases e
      · rcases getset e2 with ⟨rfl, hl, e⟩ | ⟨hn2, e2⟩
        · cases e
        · exact s.ap j l ys zs b e1 e2 e3 e4
  · exact ⟨G, s, Keep.refl⟩
end
def sFrz (i : Nat) (f : SemS) : SemS := fun δ S => f (frz i δ) S
/-- name = value: how the statement is read -/
def SetOk {ι : Type} (Xf : ι → Cx) (i : Nat) (st : Stmt) (t : TE) : Prop := ∀ j, PS (Xf j) st (tAsg t (gName i))
theorem set_ok (i : Nat) {x : Str} {e : Expr} {t : TE} {pos pos' : Pos} (F : Fm g W k Xf) (he : ∀ j, PE (Xf j) e t) (hi : ∀ j, (Xf j).N[i]? = some x) (hx : ∀ j, Loc (Xf j).env.scope x) (hs : ∀ j, swapsWith e (some (.Name x pos')) pos.line (Xf j).env = pure false)
    (hf : ∀ j, (Xf j).fn x = true ∨ (Xf j).env.scope.names.lookup x = some .local) : SetOk Xf i (.Assign [.Name x pos'] e pos) t := fun j => ps_set (F.nd j) (hi j) (hx j) (he j) (hs j) (hf j)
/-- stored as data -/
def sAsg (i : Nat) (f : SemE) : SemS := fun δ S => match f δ S with
  | some (.ok u, S') => some (.nx, δ.set i (some (.u u)), S')
  | some (.error c, S') => some (.ex c, δ, S')
  | none => none
/-- .. own lists read, no list within the value -/
def sAsgB (i : Nat) (f : SemE) : SemS := fun δ S => match f (bor δ) S with
  | some (.ok u, S') => if noLstU u = true then some (.nx, δ.set i (some (.u u)), S') else none
  | some (.error c, S') => some (.ex c, δ, S')
  | none => none
theorem rd_asgB {wd : Wd} {t : TE} {f : SemE} {i : Nat} (q1 : RdE wd W t f) : RdS wd W (tAsg t (gName i)) (sAsgB i f) := fun G0 H0 G σ H δ S fl δ' S' D s e k1 k2 k3 => by
  unfold sAsgB at e
  split at e
  · rename_i u S1 h1
    split at e
    · rename_i hn
      cases e
      refine evB q1 s h1 (fun u' eu v G' H' Gb s' kp gr rv hr => ?_) (fun c z => nomatch z)
      cases eu
      exact k1 rfl G' _ H' (by simp) (s'.setU (hr hn)) kp
    · cases e
  · rename_i c S1 h1
    cases e
    refine evB q1 s h1 (fun u' eu => nomatch eu) (fun c' z G' H' gr => ?_)
    cases z
    exact k3 c rfl σ G' H' rfl gr
  · cases e
/-- .. a new list without lists within -/
def sAsgF (i : Nat) (f : SemE) : SemS := fun δ S => match f (bor δ) S with
  | some (.ok (.d (.list ds)), S') => if noLstAll ds = true then some (.nx, δ.set i (some (.u (.d (.list ds)))), S') else none
  | some (.error c, S') => some (.ex c, δ, S')
  | _ => none
theorem rd_asgF {wd : Wd} {t : TE} {f : SemE} {i : Nat} (q1 : RdF wd W t f) : RdS wd W (tAsg t (gName i)) (sAsgF i f) := fun G0 H0 G σ H δ S fl δ' S' D s e k1 k2 k3 => by
  unfold sAsgF at e
  split at e
  · rename_i ds S1 h1
    split at e
    · rename_i hn
      cases e
      refine q1 (G.bor σ δ) σ H (bor δ) S _ _ _ s.bor h1 (fun ds' ed p vs Gb H' hp fp gr hl ra => ?_) (fun c z => nomatch z)
      cases ed
      obtain ⟨s', kp, g0⟩ := s.unbor gr
      have fp' : (Gb.unbor σ δ).F p := ⟨fp, fun o => by
        obtain ⟨⟨ws, e⟩, _⟩ := s.ownA o
        rw [hp] at e; cases e⟩
      refine k1 rfl _ _ H' (by simp) (s'.setU (v := .ref p) (u := .d (.list ds)) (.lst fp' hl (RpAll.flat (fun a xs r => r) _ _ hn ra))) kp
    · cases e
  · rename_i c S1 h1
    cases e
    refine q1 (G.bor σ δ) σ H (bor δ) S _ _ _ s.bor h1 (fun ds' ed => nomatch ed) (fun c' z Gb H' gr => ?_)
    cases z
    obtain ⟨s', kp, g0⟩ := s.unbor gr
    exact k3 c rfl σ Gb H' rfl g0
  · cases e
/-- .. a new own list -/
def sOwn (i : Nat) (f : SemE) : SemS := fun δ S => match f δ S with
  | some (.ok (.d (.list ds)), S') => some (.nx, δ.set i (some (.own ds)), S')
  | some (.error c, S') => some (.ex c, δ, S')
  | _ => none
end
end DL
set_option maxHeartbeats 1000000
/-! The data layer: more statements. -/
namespace DL
open PySem L2 PySem.W PySem.SeqAt
section
variable {wd : Wd} {G0 G G' : Gh} {σ : L2.St} {H0 H H' : Hp} {δ : En} {S S' : Sto}
/-- a new list that no name holds yet -/
structure Pend (H0 : Hp) (G : Gh) (σ : L2.St) (δ : En) (H : Hp) (p : Addr) (vs : List V) (ds : List PyData) : Prop where
  at_ : H p = some (.lst vs)
  ra : RpAll G.F H vs ds
  nf : ¬ G.F p
  nm : ¬ G.M p
  h0 : H0 p = none
  no : ¬ OwnA σ δ p
theorem Pend.grow {p : Addr} {vs : List V} {ds : List PyData} (P : Pend H0 G σ δ H p vs ds) (ok : GOk wd G H S) (gr : Grow wd G H G' H' S') : Pend H0 G' σ δ H' p vs ds :=
  ⟨gr.same p _ P.at_ P.nm, gr.rpAll ok P.ra, fun f => P.nf (gr.sub p f), fun m => (gr.mem p m).elim (fun z => P.nm z) (fun z => by rw [P.at_] at z; cases z), P.h0, P.no⟩
theorem StJ.apart (s : StJ wd G0 H0 G σ H δ S) {p : Addr} {vs : List V} {ds : List PyData} (gr : Grow wd G H G' H' S') (hp : H p = none) (fp : G'.F p) (hl : H' p = some (.lst vs)) (ra : RpAll (fun a => G'.F a ∧ a ≠ p) H' vs ds) :
    StJ wd G0 H0 { G' with F := fun a => G'.F a ∧ a ≠ p } σ H' δ S' ∧ Keep G H { G' with F := fun a => G'.F a ∧ a ≠ p } H' ∧ Pend H0 { G' with F := fun a => G'.F a ∧ a ≠ p } σ δ H' p vs ds := by
  have nep : ∀ a o, H a = some o → a ≠ p := fun a o h => ne_of_none h hp
  have kp : Keep G H { G' with F := fun a => G'.F a ∧ a ≠ p } H' := ⟨fun a xs f h => ⟨⟨gr.keep a _ h f, nep a _ h⟩, (gr.lst s.ok f h).2⟩, fun a xs h => gr.tup s.ok h, gr.ta, gr.oa⟩
  have h0 : H0 p = none := s.fr.none_of hp
  have fr := s.fr.trans gr
  have okF : GOk wd { G' with F := fun a => G'.F a ∧ a ≠ p } H' S' := gr.ok.withF _ (fun q hq => ⟨gr.ok.fresh q hq, fun z => by rw [z, hl] at hq; cases hq⟩) (fun a m f => gr.ok.mF a m f.1)
  have nm : ¬ G'.M p := fun m => gr.ok.mF p m fp
  refine ⟨⟨s.fr0, ⟨okF, fun a f => fr.sub a f.1, fun a o h f => ⟨fr.keep a o h f, fun z => by rw [z, h0] at h; cases h⟩, fr.same, fr.mem, fr.there, fr.ta, fr.oa⟩, fun i x e => ?_, fun i xs e => ?_, s.ap, s.len⟩, kp, ⟨hl, ra, fun f => f.2 rfl, nm, h0, fun o => ?_⟩⟩
  · obtain ⟨v, e1, r⟩ := s.at_ i x e
    exact ⟨v, e1, kp.rpU r⟩
  · obtain ⟨a, ws, e1, e2, r, nf', nm', n0⟩ := s.own i xs e
    refine ⟨a, ws, e1, gr.same a _ e2 nm', kp.rpAll r, fun f => nf' (gr.sub a f.1), fun m => ?_, n0⟩
    rcases gr.mem a m with z | z
    · exact nm' z
    · rw [e2] at z; cases z
  · obtain ⟨⟨ws, e⟩, _⟩ := s.ownA o
    rw [hp] at e; cases e
theorem StJ.addOwn (s : StJ wd G0 H0 G σ H δ S) {i : Nat} {p : Addr} {vs : List V} {ds : List PyData} (P : Pend H0 G σ δ H p vs ds) : StJ wd G0 H0 G (σ.set i (some (.ref p))) H (δ.set i (some (.own ds))) S := by
  refine ⟨s.fr0, s.fr, fun j x e => ?_, fun j xs e => ?_, fun j l xs ys a e1 e2 e3 e4 => ?_, by simpa using s.len⟩
  · rcases getset e with ⟨rfl, hl, e⟩ | ⟨hn, e⟩
    · cases e
    · obtain ⟨w, e1, r1⟩ := s.at_ j x e
      exact ⟨w, by rw [List.getElem?_set_ne hn]; exact e1, r1⟩
  · rcases getset e with ⟨rfl, hl, e⟩ | ⟨hn, e⟩
    · cases e
      exact ⟨p, vs, List.getElem?_set_self (by have := s.len; omega), P.at_, P.ra, P.nf, P.nm, P.h0⟩
    · obtain ⟨a, ws, e1, rest⟩ := s.own j xs e
      exact ⟨a, ws, by rw [List.getElem?_set_ne hn]; exact e1, rest⟩
  · rcases getset e1 with ⟨rfl, hl, e⟩ | ⟨hn, e1⟩
    · cases e
      rcases getset e2 with ⟨rfl, hl, e⟩ | ⟨hn2, e2⟩
      · rfl
      · rw [List.getElem?_set_ne hn2] at e4
        rw [List.getElem?_set_self (by have := s.len; omega)] at e3
        cases e3
        exact absurd ⟨l, ys, e2, e4⟩ P.no
    · rcases getset e2 with ⟨rfl, hl, e⟩ | ⟨hn2, e2⟩
      · cases e
        rw [List.getElem?_set_ne hn] at e3
        rw [List.getElem?_set_self (by have := s.len; omega)] at e4
        cases e4
        exact absurd ⟨j, xs, e1, e3⟩ P.no
      · rw [List.getElem?_set_ne hn] at e3
        rw [List.getElem?_set_ne hn2] at e4
        exact s.ap j l xs ys a e1 e2 e3 e4
/-! ### a value of a kind: data, or an own list -/
inductive Kd where
  | dat | own
def RdK (wd : Wd) (W : WX) : Kd → TE → SemE → Prop
  | .dat, t, f => RdE wd W t f
  | .own, t, f => RdF wd W t f
def put : Kd → U → Option Cell
  | .dat, u => some (.u u)
  | .own, .d (.list ds) => some (.own ds)
  | .own, _ => none
def ValOk (wd : Wd) (H0 : Hp) (G : Gh) (σ : L2.St) (δ : En) (H : Hp) (v : V) (u : U) : Kd → Prop
  | .dat => RpU wd G H v u
  | .own => ∃ p vs ds, v = .ref p ∧ u = .d (.list ds) ∧ Pend H0 G σ δ H p vs ds
theorem ValOk.grow {v : V} {u : U} {kd : Kd} (h : ValOk wd H0 G σ δ H v u kd) (ok : GOk wd G H S) (gr : Grow wd G H G' H' S') : ValOk wd H0 G' σ δ H' v u kd := by
  cases kd with
  | dat => exact gr.rpU ok h
  | own =>
    obtain ⟨p, vs, ds, e1, e2, P⟩ := h
    exact ⟨p, vs, ds, e1, e2, P.grow ok gr⟩
theorem StJ.put (s : StJ wd G0 H0 G σ H δ S) {i : Nat} {v : V} {u : U} {kd : Kd} {c : Cell} (h : ValOk wd H0 G σ δ H v u kd) (e : put kd u = some c) : StJ wd G0 H0 G (σ.set i (some v)) H (δ.set i (some c)) S := by
  cases kd with
  | dat =>
    cases e
    exact s.setU h
  | own =>
    obtain ⟨p, vs, ds, rfl, rfl, P⟩ := h
    cases e
    exact s.addOwn P
/-- evaluated as a kind; what was new is told -/
theorem evK {W : WX} {kd : Kd} {t : TE} {f : SemE} (h : RdK wd W kd t f) {r : Except Nat U} {Q : VK} (s : StJ wd G0 H0 G σ H δ S) (e : f δ S = some (r, S'))
    (k1 : ∀ u, r = .ok u → (kd = .own → ∃ ds, u = .d (.list ds)) → ∀ v G' H', StJ wd G0 H0 G' σ H' δ S' → Keep G H G' H' → ValOk wd H0 G' σ δ H' v u kd → (∀ p, kd = .own → v = .ref p → H p = none) → (∀ a o, H a = some o → ¬ G.M a → H' a = some o) → (∀ a, ¬ G.F a → H a ≠ none → ¬ G'.F a) → (∀ a o, H a = some o → ¬ G.M a → ¬ G'.M a) → Q v H') (k2 : ∀ c, r = .error c → ∀ G' H', Grow wd G0 H0 G' H' S' → W (.ref (wd.ca c)) none σ H') : t σ H Q := by
  cases kd with
  | dat =>
    refine h G σ H δ S r S' Q s.st0 e (fun u eu v G' H' gr rv => k1 u eu (fun z => nomatch z) v G' H' (s.grow gr) (gr.kp s.ok) rv (fun _ z => nomatch z) gr.same (fun a nf _ f => nf (gr.sub a f)) (fun a o ho nm m => ?_)) (fun c ec G' H' gr => k2 c ec G' H' (s.fr.trans gr))
    rcases gr.mem a m with z | z
    · exact nm z
    · rw [ho] at z; cases z
  | own =>
    refine h G σ H δ S r S' Q s.st0 e (fun ds ed p vs G' H' hp fp gr hl ra => ?_) (fun c ec G' H' gr => k2 c ec G' H' (s.fr.trans gr))
    obtain ⟨s', kp, P⟩ := s.apart gr hp fp hl ra
    refine k1 _ ed (fun _ => ⟨ds, rfl⟩) (.ref p) _ H' s' kp ⟨p, vs, ds, rfl, rfl, P⟩ (fun q _ eq => by cases eq; exact hp) gr.same (fun a nf _ f => nf (gr.sub a f.1)) (fun a o ho nm m => ?_)
    rcases gr.mem a m with z | z
    · exact nm z
    · rw [ho] at z; cases z
end
section
variable {g : Gb} {W : WX} {ι : Type} {Xf : ι → Cx} {k : Nat}
def SK (g : Gb) (W : WX) {ι : Type} (Xf : ι → Cx) (kd : Kd) (e : Expr) (f : SemE) : Prop := ∃ t, (∀ i, PE (Xf i) e t) ∧ RdK g.wd W kd t f
theorem SE.dat {e : Expr} {f : SemE} (h : SE g W Xf e f) : SK g W Xf .dat e f := h
theorem SF.own {e : Expr} {f : SemE} (h : SF g W Xf e f) : SK g W Xf .own e f := h
/-- x = e -/
def sSet (kd : Kd) (i : Nat) (f : SemE) : SemS := fun δ S => match f δ S with
  | some (.ok u, S') => (match put kd u with
    | some c => some (.nx, δ.set i (some c), S')
    | none => none)
  | some (.error c, S') => some (.ex c, δ, S')
  | none => none
theorem rd_set {wd : Wd} {t : TE} {f : SemE} {i : Nat} {kd : Kd} (q1 : RdK wd W kd t f) : RdS wd W (tAsg t (gName i)) (sSet kd i f) := fun G0 H0 G σ H δ S fl δ' S' D s e k1 k2 k3 => by
  unfold sSet at e
  split at e
  · rename_i u S1 h1
    split at e
    · rename_i c hc
      cases e
      refine evK q1 s h1 (fun u' eu _ v G' H' s' kp rv _ _ _ _ => ?_) (fun c z => nomatch z)
      cases eu
      exact k1 rfl G' _ H' (by simp) (s'.put rv hc) kp
    · cases e
  · rename_i c S1 h1
    cases e
    refine evK q1 s h1 (fun u' eu => nomatch eu) (fun c' z G' H' gr => ?_)
    cases z
    exact k3 c rfl σ G' H' rfl gr
  · cases e
theorem ss_set (kd : Kd) (i : Nat) {x : Str} {e : Expr} {f : SemE} {pos pos' : Pos} (F : Fm g W k Xf) (he : SK g W Xf kd e f) (hi : ∀ j, (Xf j).N[i]? = some x := by intro _; rfl) (hx : ∀ j, Loc (Xf j).env.scope x := by first | exact fun _ => Or.inl rfl | exact fun _ => Or.inr rfl)
    (hs : ∀ j, swapsWith e (some (.Name x pos')) pos.line (Xf j).env = pure false := by intro _; rfl) (hf : ∀ j, (Xf j).fn x = true ∨ (Xf j).env.scope.names.lookup x = some .local := by first | exact fun _ => Or.inl rfl | exact fun _ => Or.inr rfl) :
    SS g W Xf (.Assign [.Name x pos'] e pos) (sSet kd i f) := by
  obtain ⟨t, p1, q1⟩ := he
  exact ⟨_, set_ok i F p1 hi hx hs hf, rd_set q1⟩
theorem ss_setB (i : Nat) {x : Str} {e : Expr} {f : SemE} {pos pos' : Pos} (F : Fm g W k Xf) (he : SE g W Xf e f) (hi : ∀ j, (Xf j).N[i]? = some x := by intro _; rfl) (hx : ∀ j, Loc (Xf j).env.scope x := by first | exact fun _ => Or.inl rfl | exact fun _ => Or.inr rfl)
    (hs : ∀ j, swapsWith e (some (.Name x pos')) pos.line (Xf j).env = pure false := by intro _; rfl) (hf : ∀ j, (Xf j).fn x = true ∨ (Xf j).env.scope.names.lookup x = some .local := by first | exact fun _ => Or.inl rfl | exact fun _ => Or.inr rfl) :
    SS g W Xf (.Assign [.Name x pos'] e pos) (sAsgB i f) := by
  obtain ⟨t, p1, q1⟩ := he
  exact ⟨_, set_ok i F p1 hi hx hs hf, rd_asgB q1⟩
/-! ### name = [.. for ..], the name a plain local -/
def SLc (g : Gb) (W : WX) {ι : Type} (Xf : ι → Cx) (i : Nat) (x : Str) (pos' pos : Pos) (e : Expr) (f : SemE) : Prop := ∃ t, (∀ j, PS (Xf j) (.Assign [.Name x pos'] e pos) (tAsg t (gName i))) ∧ RdF g.wd W t f
theorem slc {elt tg iter : Expr} {ifs : List Expr} {scope : Scope} {pos pos' spos : Pos} {it : SemI} {tgs : Tg} {test : SemT} {fe : SemE} {i : Nat} {x : Str} (own : List (Str × Nat)) (N : List Str) (F : Fm g W k Xf) (hi : SI g W Xf tg iter it)
    (hg : SG g (blkF Xf scope) tg tgs) (ht : SQ g W0 (blkF Xf scope) ifs test) (he : SE g W0 (blkF Xf scope) elt fe) (hb : ∀ i, blkC N (Xf i).env.scope scope own = true := by intro _; kernel_rfl) (hN : ∀ i, (Xf i).N = N := by intro _; rfl)
    (hv : (tgs.slots.all fun i => (own.map (·.2)).contains i) = true := by decide) (hs : ∀ i x, foldedSetIterable iter (Xf i).env x = pure x := by intro _ _; rfl)
    (hx : ∀ j, (Xf j).N[i]? = some x := by intro _; rfl) (hxl : ∀ j, (Xf j).env.scope.names.lookup x = some .local := by intro _; rfl) (hk : ∀ j, (Xf j).env.scope.kind = .function := by intro _; rfl) (hl : (pos'.line == pos.line) = true := by rfl)
    (ha : (scope.names.any fun (n, k) => n == x && (k == .local || k == .cell)) = false := by kernel_rfl) :
    SLc g W Xf i x pos' spos (.ListComp elt [⟨tg, iter, ifs, 0⟩] scope pos) (eLc it (own.map (·.2)) tgs test fe) := by
  obtain ⟨wi, i1, i2⟩ := hi
  obtain ⟨gt, g1, g2⟩ := hg
  obtain ⟨tt, t1, t2⟩ := ht
  obtain ⟨te, e1, e2⟩ := he
  refine ⟨tLc wi gt tt te (own.map (·.2)), fun j => ps_setLc (F.calm j) (F.nd j) (hx j) (hxl j) (sw_true (hk j) (hxl j) hl ha) (i1 j) ?_ (fun s H C cl fp => g1 (j, s, H, C, cl, fp)) (fun s H C cl fp => t1 (j, s, H, C, cl, fp)) (fun s H C cl fp => e1 (j, s, H, C, cl, fp)) (hs j), rd_lc i2 g2 t2 e2 fun i hi => ?_⟩
  · rw [hN j]
    exact blkOk_by (hb j)
  · exact List.contains_iff_mem.mp (List.all_eq_true.mp hv i hi)
theorem ss_lc {i : Nat} {x : Str} {e : Expr} {f : SemE} {pos pos' : Pos} (h : SLc g W Xf i x pos' pos e f) : SS g W Xf (.Assign [.Name x pos'] e pos) (sSet .dat i f) := by
  obtain ⟨t, p1, q1⟩ := h
  exact ⟨_, p1, rd_set (kd := .dat) (rdE_of_F q1)⟩
theorem ss_lcF {i : Nat} {x : Str} {e : Expr} {f : SemE} {pos pos' : Pos} (h : SLc g W Xf i x pos' pos e f) : SS g W Xf (.Assign [.Name x pos'] e pos) (sAsgF i f) := by
  obtain ⟨t, p1, q1⟩ := h
  exact ⟨_, p1, rd_asgF q1⟩
/-! ### a, b = e1, e2 -/
def sPar (k1 : Kd) (i : Nat) (f1 : SemE) (k2 : Kd) (j : Nat) (f2 : SemE) : SemS := fun δ S => match f1 δ S with
  | some (.ok u, S1) => (match f2 δ S1 with
    | some (.ok w, S2) => (match put k1 u, put k2 w with
      | some c, some d => some (.nx, (δ.set i (some c)).set j (some d), S2)
      | _, _ => none)
    | some (.error c, S2) => some (.ex c, δ, S2)
    | none => none)
  | some (.error c, S1) => some (.ex c, δ, S1)
  | none => none
theorem put2 {wd : Wd} {G0 G1 G2 : Gh} {σ : L2.St} {H0 H1 H2 : Hp} {δ : En} {S1 S2 : Sto} {x y : V} {u w : U} {k1 k2 : Kd} {c d : Cell} {i j : Nat} (s1 : StJ wd G0 H0 G1 σ H1 δ S1) (s2 : StJ wd G0 H0 G2 σ H2 δ S2) (v1 : ValOk wd H0 G1 σ δ H1 x u k1) (v1' : ValOk wd H0 G2 σ δ H2 x u k1) (v2 : ValOk wd H0 G2 σ δ H2 y w k2)
    (hn : ∀ p, k2 = .own → y = .ref p → H1 p = none) (e1 : put k1 u = some c) (e2 : put k2 w = some d) : StJ wd G0 H0 G2 ((σ.set i (some x)).set j (some y)) H2 ((δ.set i (some c)).set j (some d)) S2 := by
  refine (s2.put (i := i) v1' e1).put (i := j) ?_ e2
  cases k2 with
  | dat => exact v2
  | own =>
    obtain ⟨p, vs, ds, rfl, rfl, P⟩ := v2
    refine ⟨p, vs, ds, rfl, rfl, P.at_, P.ra, P.nf, P.nm, P.h0, fun o => ?_⟩
    obtain ⟨l, xs, o1, o2⟩ := o
    rcases getset o1 with ⟨rfl, hl, ec⟩ | ⟨hne, o1⟩
    · cases k1 with
      | dat =>
        cases e1
        cases ec
      | own =>
        obtain ⟨p1, ws, es, rfl, rfl, P1⟩ := v1
        rw [List.getElem?_set_self (by have := s2.len; omega)] at o2
        cases o2
        have := hn p rfl rfl
        rw [P1.at_] at this
        cases this
    · rw [List.getElem?_set_ne hne] at o2
      exact P.no ⟨l, xs, o1, o2⟩
/-- both names plain locals -/
theorem ss_par (k1 : Kd) (i : Nat) (k2 : Kd) (j : Nat) {x y : Str} {a b : Expr} {f1 f2 : SemE} {px py pt pt2 pos : Pos} {kt kt2 : Nat} (F : Fm g W k Xf) (h1 : SK g W Xf k1 a f1) (h2 : SK g W Xf k2 b f2) (hij : i ≠ j := by decide)
    (hi : ∀ l, (Xf l).N[i]? = some x := by intro _; rfl) (hj : ∀ l, (Xf l).N[j]? = some y := by intro _; rfl) (hx : ∀ l, (Xf l).env.scope.names.lookup x = some .local := by intro _; rfl) (hy : ∀ l, (Xf l).env.scope.names.lookup y = some .local := by intro _; rfl)
    (hw : ∀ l, swappedStores [.Tuple [.Name x px, .Name y py] kt pt] (.Tuple [a, b] kt2 pt2) (Xf l).env = pure (some [x, y]) := by intro _; rfl)
    (hs : ∀ l, swapsWithSole [.Tuple [.Name x px, .Name y py] kt pt] (.Tuple [a, b] kt2 pt2) pos.line (Xf l).env = pure false := by intro _; rfl)
    (ha : ∀ l, starEach [a, b] (Xf l).env = (false, eval a (Xf l).env) :: starEach [b] (Xf l).env := by intro _; rfl) (hb : ∀ l, starEach [b] (Xf l).env = (false, eval b (Xf l).env) :: starEach [] (Xf l).env := by intro _; rfl) :
    SS g W Xf (.Assign [.Tuple [.Name x px, .Name y py] kt pt] (.Tuple [a, b] kt2 pt2) pos) (sPar k1 i f1 k2 j f2) := by
  obtain ⟨t1, p1, q1⟩ := h1
  obtain ⟨t2, p2, q2⟩ := h2
  refine ⟨tPar i j (tCons t1 (tCons t2 tNil)), fun l => ps_par (F.calm l) (F.nd l) (hi l) (hj l) hij (hx l) (hy l) (pa_cons (p1 l) (pa_cons (p2 l) pa_nil (hb l)) (ha l)) (hw l) (hs l), fun G0 H0 G σ H δ S fl δ' S' D s e k1' k2' k3' => ?_⟩
  unfold sPar at e
  split at e
  · rename_i u S1 hu
    refine evK q1 s hu (fun u' eu _ v G1 H1 s1 kp1 rv _ _ _ _ => ?_) (fun c z => nomatch z)
    cases eu
    split at e
    · rename_i w S2 hw2
      split at e
      · rename_i c d hc hd
        cases e
        refine evK q2 s1 hw2 (fun w' ew _ v2 G2 H2 s2 kp2 rv2 hn same nF nM => ?_) (fun c z => nomatch z)
        cases ew
        refine ⟨v, v2, rfl, k1' rfl G2 _ H2 (by simp) (put2 s1 s2 rv ?_ rv2 hn hc hd) (kp1.trans kp2)⟩
        cases k1 with
        | dat => exact kp2.rpU rv
        | own =>
          obtain ⟨p, vs, ds, r1, r2, P⟩ := rv
          exact ⟨p, vs, ds, r1, r2, same p _ P.at_ P.nm, kp2.rpAll P.ra, nF p P.nf (by rw [P.at_]; exact fun z => nomatch z), nM p _ P.at_ P.nm, P.h0, P.no⟩
      · cases e
    · rename_i c S2 hw2
      cases e
      refine evK q2 s1 hw2 (fun u' eu => nomatch eu) (fun c' z G' H' gr => ?_)
      cases z
      exact k3' c rfl σ G' H' rfl gr
    · cases e
  · rename_i c S1 hu
    cases e
    refine evK q1 s hu (fun u' eu => nomatch eu) (fun c' z G' H' gr => ?_)
    cases z
    exact k3' c rfl σ G' H' rfl gr
  · cases e
/-- one of the names captured: by way of a tuple -/
theorem ss_parT (k1 : Kd) (i : Nat) (k2 : Kd) (j : Nat) {x y : Str} {a b : Expr} {f1 f2 : SemE} {px py pt pt2 pos : Pos} {kt kt2 : Nat} (F : Fm g W k Xf) (h1 : SK g W Xf k1 a f1) (h2 : SK g W Xf k2 b f2) (hg : SGs g Xf [.Name x px, .Name y py] [i, j])
    (hn : ∀ l, (assignEach [.Name x px, .Name y py] (Xf l).env).length = 2 := by intro _; rfl) (hst : ∀ l, (assignEach [.Name x px, .Name y py] (Xf l).env).findIdx? (·.1) = none := by intro _; rfl)
    (hs : ∀ l, swapsWithSole [.Tuple [.Name x px, .Name y py] kt pt] (.Tuple [a, b] kt2 pt2) pos.line (Xf l).env = pure false := by intro _; rfl) (hw : ∀ l, swappedStores [.Tuple [.Name x px, .Name y py] kt pt] (.Tuple [a, b] kt2 pt2) (Xf l).env = pure none := by intro _; rfl)
    (ho : ∀ l, (assignEach [.Tuple [.Name x px, .Name y py] kt pt] (Xf l).env).map (·.2) = [assign (.Tuple [.Name x px, .Name y py] kt pt) (Xf l).env] := by intro _; rfl)
    (ha : ∀ l, starEach [a, b] (Xf l).env = (false, eval a (Xf l).env) :: starEach [b] (Xf l).env := by intro _; rfl) (hb : ∀ l, starEach [b] (Xf l).env = (false, eval b (Xf l).env) :: starEach [] (Xf l).env := by intro _; rfl) :
    SS g W Xf (.Assign [.Tuple [.Name x px, .Name y py] kt pt] (.Tuple [a, b] kt2 pt2) pos) (sPar k1 i f1 k2 j f2) := by
  obtain ⟨t1, p1, q1⟩ := h1
  obtain ⟨t2, p2, q2⟩ := h2
  refine ⟨tAsg (tTup (tCons t1 (tCons t2 tNil))) (gTup g.wd.K 2 (gNames [i, j])), fun l => ps_asg (pe_tup (pa_cons (p1 l) (pa_cons (p2 l) pa_nil (hb l)) (ha l))) (F.K l ▸ pg_tup (F.calm l) (hg l) (hn l) (hst l)) (hs l) (hw l) (ho l), fun G0 H0 G σ H δ S fl δ' S' D s e k1' k2' k3' => ?_⟩
  unfold sPar at e
  split at e
  · rename_i u S1 hu
    refine evK q1 s hu (fun u' eu _ v G1 H1 s1 kp1 rv _ _ _ _ => ?_) (fun c z => nomatch z)
    cases eu
    split at e
    · rename_i w S2 hw2
      split at e
      · rename_i c d hc hd
        cases e
        refine evK q2 s1 hw2 (fun w' ew _ v2 G2 H2 s2 kp2 rv2 hn same nF nM => ?_) (fun c z => nomatch z)
        cases ew
        refine ⟨by show 2 ≤ sizeLine; decide, fun T hT => ?_⟩
        have grT := Grow.new (o := .tup [v, v2]) s2.ok hT
        have s3 := s2.grow grT
        refine ⟨T, [v, v2], rfl, .inl (.inl upd_same), rfl, v, [v2], rfl, v2, [], rfl, rfl, ?_⟩
        have rv' : ValOk g.wd H0 G2 σ δ H2 v u k1 := by
          cases k1 with
          | dat => exact kp2.rpU rv
          | own =>
            obtain ⟨p, vs, ds, r1, r2, P⟩ := rv
            exact ⟨p, vs, ds, r1, r2, same p _ P.at_ P.nm, kp2.rpAll P.ra, nF p P.nf (by rw [P.at_]; exact fun z => nomatch z), nM p _ P.at_ P.nm, P.h0, P.no⟩
        exact k1' rfl G2 _ _ (by simp) (put2 s1 s3 rv (rv'.grow s2.ok grT) (rv2.grow s2.ok grT) hn hc hd) ((kp1.trans kp2).trans (grT.kp s2.ok))
      · cases e
    · rename_i c S2 hw2
      cases e
      refine evK q2 s1 hw2 (fun u' eu => nomatch eu) (fun c' z G' H' gr => ?_)
      cases z
      exact k3' c rfl σ G' H' rfl gr
    · cases e
  · rename_i c S1 hu
    cases e
    refine evK q1 s hu (fun u' eu => nomatch eu) (fun c' z G' H' gr => ?_)
    cases z
    exact k3' c rfl σ G' H' rfl gr
  · cases e
/-! ### a, b = e -/
theorem StJ.setAll {wd : Wd} {G0 G : Gh} {H0 H : Hp} {S : Sto} : ∀ {ws : List (Nat × V)} {ps : List (Nat × PyData)} {σ : L2.St} {δ : En}, StJ wd G0 H0 G σ H δ S → RpP G.F H ws ps → StJ wd G0 H0 G (setV σ ws) H (setD δ ps) S
  | _, _, _, _, s, .nil => s
  | (i, v) :: ws, (j, d) :: ps, σ, δ, s, .cons h t => by
    obtain ⟨e, r⟩ := h
    have e : i = j := e
    subst e
    exact StJ.setAll (σ := σ.set i (some v)) (δ := δ.set i (some (.u (.d d)))) (s.setU (i := i) (v := v) (u := .d d) r) t
theorem setV_length : ∀ (ws : List (Nat × V)) (σ : L2.St), (setV σ ws).length = σ.length
  | [], _ => rfl
  | (i, v) :: ws, σ => by
    unfold setV
    rw [setV_length ws, List.length_set]
def sUnp (tg : Tg) (f : SemE) : SemS := fun δ S => match f δ S with
  | some (.ok (.d x), S') => (match tg.split x with
    | some ps => some (.nx, setD δ ps, S')
    | none => none)
  | some (.error c, S') => some (.ex c, δ, S')
  | _ => none
end
end DL
set_option maxHeartbeats 1000000
/-! The data layer: loops, raise, defs and their calls. -/
namespace DL
open PySem L2 PySem.W PySem.SeqAt
section
variable {g : Gb} {W : WX} {ι : Type} {Xf : ι → Cx} {k : Nat}
/-! ### x.append(e), x.extend(e), x.pop() -/
def sApp (i : Nat) (f : SemE) : SemS := fun δ S => match δ[i]? with
  | some (some (.own xs)) => (match f δ S with
    | some (.ok (.d y), S') => if xs.length < LIM then some (.nx, δ.set i (some (.own (xs ++ [y]))), S') else none
    | some (.error c, S') => some (.ex c, δ, S')
    | _ => none)
  | _ => none
def sAppB (i : Nat) (f : SemE) : SemS := fun δ S => match δ[i]? with
  | some (some (.own xs)) => (match f (bor δ) S with
    | some (.ok (.d y), S') => if xs.length < LIM ∧ noLst y = true then some (.nx, δ.set i (some (.own (xs ++ [y]))), S') else none
    | some (.error c, S') => some (.ex c, δ, S')
    | _ => none)
  | _ => none
def sExt (i : Nat) (f : SemE) : SemS := fun δ S => match δ[i]? with
  | some (some (.own xs)) => (match f δ S with
    | some (.ok (.d (.list ys)), S') => if xs.length + ys.length ≤ LIM then some (.nx, δ.set i (some (.own (xs ++ ys))), S') else none
    | some (.error c, S') => some (.ex c, δ, S')
    | _ => none)
  | _ => none
theorem lim_lt {n : Nat} (h : n < LIM) : n < sizeLine := Nat.lt_of_lt_of_le h (by decide)
theorem rd_app {wd : Wd} {t : TE} {f : SemE} {i : Nat} (q1 : RdE wd W t f) : RdS wd W (tDrop (tBM wd.K "list" rAppend (tVar i) (tCons t tNil))) (sApp i f) := fun G0 H0 G σ H δ S fl δ' S' D s e k1 k2 k3 => by
  unfold sApp at e
  split at e
  · rename_i xs hi
    obtain ⟨a, vs, ha, hal, r, nf, nm, n0⟩ := s.own i xs hi
    refine ⟨.ref a, ha, .inl ⟨rfl, vs, .inl (.inl hal)⟩, ?_⟩
    split at e
    · rename_i y S1 h1
      split at e
      · rename_i hl
        cases e
        refine evN q1 s h1 (fun u' eu v G' H' s' kp rv => ?_) (fun c z => nomatch z)
        cases eu
        obtain ⟨a', vs', ha', hal', r', _⟩ := s'.own i xs hi
        rw [ha] at ha'
        cases ha'
        obtain ⟨s2, kp2⟩ := s'.updOwn (vs' := vs' ++ [v]) (xs' := xs ++ [y]) hi ha hal' (r'.append (.cons rv .nil))
        exact ⟨a, vs', v, rfl, rfl, hal', lim_lt (by rw [r'.length]; exact hl), k1 rfl G' σ _ rfl s2 (kp.trans kp2)⟩
      · cases e
    · rename_i c S1 h1
      cases e
      refine evN q1 s h1 (fun u' eu => nomatch eu) (fun c' z G' H' gr => ?_)
      cases z
      exact k3 c rfl σ G' H' rfl gr
    · cases e
  · cases e
theorem rd_ext {wd : Wd} {t : TE} {f : SemE} {i : Nat} (q1 : RdE wd W t f) : RdS wd W (tDrop (tBM wd.K "list" rExtend (tVar i) (tCons t tNil))) (sExt i f) := fun G0 H0 G σ H δ S fl δ' S' D s e k1 k2 k3 => by
  unfold sExt at e
  split at e
  · rename_i xs hi
    obtain ⟨a, vs, ha, hal, r, nf, nm, n0⟩ := s.own i xs hi
    refine ⟨.ref a, ha, .inl ⟨rfl, vs, .inl (.inl hal)⟩, ?_⟩
    split at e
    · rename_i ys S1 h1
      split at e
      · rename_i hl
        cases e
        refine evN q1 s h1 (fun u' eu v G' H' s' kp rv => ?_) (fun c z => nomatch z)
        cases eu
        cases rv with
        | lst fb hb rb =>
          obtain ⟨a', vs', ha', hal', r', _⟩ := s'.own i xs hi
          rw [ha] at ha'
          cases ha'
          obtain ⟨s2, kp2⟩ := s'.updOwn (vs' := vs' ++ _) (xs' := xs ++ ys) hi ha hal' (r'.append rb)
          exact ⟨a, _, vs', _, rfl, rfl, hal', hb, lim_sz (by rw [r'.length, rb.length]; exact hl), k1 rfl G' σ _ rfl s2 (kp.trans kp2)⟩
      · cases e
    · rename_i c S1 h1
      cases e
      refine evN q1 s h1 (fun u' eu => nomatch eu) (fun c' z G' H' gr => ?_)
      cases z
      exact k3 c rfl σ G' H' rfl gr
    · cases e
  · cases e
/-- how x.m(e) as a statement is read -/
theorem ps_m1 (i : Nat) {x name : Str} {id : String} {r : V → List V → Hp → VK → Prop} {e : Expr} {t : TE} {p apos cpos pos : Pos} (F : Fm g W k Xf) (slot : Slot "list" name id) (hty : typeOf (.builtin id) = pure (.type "method_descriptor")) (hm : ∀ j, MtR (Xf j) id r) (he : ∀ j, PE (Xf j) e t) (hN : ∀ j, (Xf j).N[i]? = some x) (hv : ∀ j, Vis (Xf j).env.scope x) (hd : (x == ("__debug__" : Str)) = false) (hcd : (x == ("__classdict__" : Str)) = false)
    (hs : ∀ j, starEach [e] (Xf j).env = (false, eval e (Xf j).env) :: starEach [] (Xf j).env)
    (hline : (apos.endLine == cpos.line) = true) (hb : ∀ j, attributeBase (.Name x p) name (Xf j).env (eval (.Name x p) (Xf j).env) = eval (.Name x p) (Xf j).env) (hw : ∀ j, swapsWith (.Call (.Attribute (.Name x p) name apos) [e] [] cpos) none pos.line (Xf j).env = pure false) :
    ∀ j, PS (Xf j) (.Expr (.Call (.Attribute (.Name x p) name apos) [e] [] cpos) pos) (tDrop (tBM g.wd.K "list" r (tVar i) (tCons t tNil))) := fun j =>
  ps_expr (F.K j ▸ pe_bm PySem.F.plainAttrs_list slot hty (hm j) (pe_var (hN j) (hv j) hd hcd) (pa_cons (he j) pa_nil (hs j)) (hb j) (by rw [hs j]; rfl) hline (hs j) rfl) (hw j)
theorem ss_app (i : Nat) {x : Str} {e : Expr} {f : SemE} {p apos cpos pos : Pos} (F : Fm g W k Xf) (he : SE g W Xf e f) (hN : ∀ j, (Xf j).N[i]? = some x := by intro _; rfl)
    (hv : ∀ j, Vis (Xf j).env.scope x := by first | exact fun _ => Or.inl rfl | exact fun _ => Or.inr (Or.inl rfl) | exact fun _ => Or.inr (Or.inr rfl)) (hd : (x == ("__debug__" : Str)) = false := by decide) (hcd : (x == ("__classdict__" : Str)) = false := by decide)
    (hs : ∀ j, starEach [e] (Xf j).env = (false, eval e (Xf j).env) :: starEach [] (Xf j).env := by intro _; rfl) (hline : (apos.endLine == cpos.line) = true := by rfl)
    (hb : ∀ j, attributeBase (.Name x p) "append" (Xf j).env (eval (.Name x p) (Xf j).env) = eval (.Name x p) (Xf j).env := by intro _; rfl) (hw : ∀ j, swapsWith (.Call (.Attribute (.Name x p) "append" apos) [e] [] cpos) none pos.line (Xf j).env = pure false := by intro _; rfl) :
    SS g W Xf (.Expr (.Call (.Attribute (.Name x p) "append" apos) [e] [] cpos) pos) (sApp i f) := by
  obtain ⟨t, p1, q1⟩ := he
  exact ⟨_, ps_m1 i F PySem.F.slot_list_append PySem.F.type_list_append (fun j => mt_append) p1 hN hv hd hcd hs hline hb hw, rd_app q1⟩
/-- a, b = x.pop() -/
def sPop (i : Nat) (tg : Tg) : SemS := fun δ S => match δ[i]? with
  | some (some (.own xs)) => (match xs[xs.length - 1]? with
    | some y => (match tg.split y with
      | some ps => some (.nx, setD (δ.set i (some (.own xs.dropLast))) ps, S)
      | none => none)
    | none => none)
  | _ => none
/-! ### for -/
def forGo (tg : Tg) (body : SemS) : List PyData → SemS
  | [], δ, S => some (.nx, δ, S)
  | x :: r, δ, S => match tg.split x with
    | none => none
    | some ps => match body (setD δ ps) S with
      | some (.nx, δ1, S1) => forGo tg body r δ1 S1
      | r => r
def sFor (it : SemI) (tg : Tg) (body : SemS) : SemS := fun δ S => match it δ S with
  | some (.ok items, S1) => forGo tg body items δ S1
  | some (.error c, S1) => some (.ex c, δ, S1)
  | none => none
theorem rd_for {wd : Wd} {wi : TI} {gt : TG} {tb : TS} {it : SemI} {tg : Tg} {body : SemS} (hi : RdI wd W wi it) (hg : TgOk gt tg) (hb : RdS wd W tb body) : RdS wd W (tFor wi gt tb) (sFor it tg body) := fun G0 H0 G σ H δ S fl δ' S' D s e k1 k2 k3 => by
  unfold sFor at e
  split at e
  · rename_i items S1 h1
    refine hi G σ H δ S _ S1 _ s.st0 h1 (fun items' ei J G1 H1 gr1 wk => ?_) (fun c z => nomatch z)
    cases ei
    have s1 := s.grow gr1
    have kp1 := gr1.kp s.ok
    refine ⟨fun i m σc Hc => ∃ (Gc : Gh) (δc : En) (Sc : Sto), m = items.length - i ∧ i ≤ items.length ∧ σc.length = σ.length ∧ StJ wd G0 H0 Gc σc Hc δc Sc ∧ Keep G1 H1 Gc Hc ∧ forGo tg body (items.drop i) δc Sc = some (fl, δ', S'),
      ⟨items.length, G1, δ, S1, by simp, Nat.zero_le _, rfl, s1, Keep.refl, by simpa using e⟩, ?_⟩
    rintro i m σc Hc ⟨Gc, δc, Sc, rfl, hi', hlen, sc, kpc, hgo⟩
    have wkc := wk Gc Hc Sc kpc sc.ok
    by_cases hlt : i < items.length
    · obtain ⟨d, hd⟩ : ∃ d, items[i]? = some d := ⟨_, List.getElem?_eq_getElem hlt⟩
      have hdrop : items.drop i = d :: items.drop (i + 1) := by
        rw [List.drop_eq_getElem_cons hlt]
        rw [List.getElem?_eq_getElem hlt] at hd
        cases hd
        rfl
      obtain ⟨hgo1, hyl⟩ := wkc.2 i d hd
      refine .inr ⟨hgo1, fun σn Hn => ∃ (Gc : Gh) (δc : En) (Sc : Sto), σn.length = σ.length ∧ StJ wd G0 H0 Gc σn Hn δc Sc ∧ Keep G1 H1 Gc Hn ∧ forGo tg body (items.drop (i + 1)) δc Sc = some (fl, δ', S'),
        fun σn Hn ⟨Gn, δn, Sn, a1, a2, a3, a4⟩ => ⟨items.length - (i + 1), by omega, Gn, δn, Sn, rfl, hlt, a1, a2, a3, a4⟩, fun x H2 y => ?_⟩
      obtain ⟨gr2, rx⟩ := hyl x H2 y
      have s2 := sc.grow gr2
      have kp2 := gr2.kp sc.ok
      rw [hdrop] at hgo
      unfold forGo at hgo
      split at hgo
      · cases hgo
      · rename_i ps hps
        refine hg Gc.F H2 σc x d ps _ rx hps fun ws hws => ?_
        have s3 := s2.setAll hws
        have l3 : (setV σc ws).length = σ.length := (setV_length ws σc).trans hlen
        split at hgo
        · rename_i δ1 S2 hbd
          refine hb G0 H0 Gc _ H2 _ Sc _ δ1 S2 _ s3 hbd (fun _ G4 σ4 H4 l4 s4 kp4 => ?_) (fun u z => nomatch z) (fun c z => nomatch z)
          exact ⟨G4, δ1, S2, l4.trans l3, s4, (kpc.trans kp2).trans kp4, hgo⟩
        · rename_i hne
          refine hb G0 H0 Gc _ H2 _ Sc fl δ' S' _ s3 hgo (fun z => ?_) k2 (fun c z σ4 G4 H4 l4 gr => k3 c z σ4 G4 H4 (l4.trans l3) gr)
          subst z
          exact absurd hgo (hne δ' S')
    · have hi2 : i = items.length := by omega
      subst hi2
      rw [List.drop_length] at hgo
      cases hgo
      exact .inl ⟨wkc.1 _ (Nat.le_refl _), k1 rfl Gc σc Hc hlen sc (kp1.trans kpc)⟩
  · rename_i c S1 h1
    cases e
    refine hi G σ H δ S _ _ _ s.st0 h1 (fun _ z => nomatch z) (fun c' z G' H' gr => ?_)
    cases z
    exact k3 c rfl σ G' H' rfl (s.fr.trans gr)
  · cases e
theorem ss_for {tge iter : Expr} {body : List Stmt} {it : SemI} {tg : Tg} {fb : SemS} {pos : Pos} (F : Fm g W k Xf) (hi : SI g W Xf tge iter it) (hg : SG g Xf tge tg) (hb : SSs g W Xf body fb) (hs : ∀ i x, foldedSetIterable iter (Xf i).env x = pure x := by intro _ _; rfl) :
    SS g W Xf (.For tge iter body [] pos) (sFor it tg fb) := by
  obtain ⟨wi, i1, i2⟩ := hi
  obtain ⟨gt, g1, g2⟩ := hg
  obtain ⟨tb, b1, b2⟩ := hb
  exact ⟨tFor wi gt tb, fun l => ps_for (F.pown l) (F.calm l) (i1 l) (g1 l) (b1 l) (hs l), rd_for i2 g2 b2⟩
/-! ### while -/
def whGo (c : SemT) (body : SemS) : Nat → SemS
  | 0, _, _ => none
  | n + 1, δ, S => match c (bor δ) S with
    | some (.ok true, S1) => (match body δ S1 with
      | some (.nx, δ2, S2) => whGo c body n δ2 S2
      | r => r)
    | some (.ok false, S1) => some (.nx, δ, S1)
    | some (.error e, S1) => some (.ex e, δ, S1)
    | none => none
theorem ss_while (n : Nat) {ce : Expr} {body : List Stmt} {c : SemT} {fb : SemS} {pos : Pos} (F : Fm g W k Xf) (hc : ST g W Xf ce c) (hb : SSs g W Xf body fb) : SS g W Xf (.While ce body [] pos) (whGo c fb n) := by
  obtain ⟨tc, c1, c2⟩ := hc
  obtain ⟨tb, b1, b2⟩ := hb
  refine ⟨tWhile tc tb, fun l => ps_while (F.pown l) (c1 l) (b1 l), fun G0 H0 G σ H δ S fl δ' S' D s e k1 k2 k3 => ?_⟩
  refine ⟨fun m σc Hc => ∃ (Gc : Gh) (δc : En) (Sc : Sto), σc.length = σ.length ∧ StJ g.wd G0 H0 Gc σc Hc δc Sc ∧ Keep G H Gc Hc ∧ whGo c fb m δc Sc = some (fl, δ', S'), ⟨n, G, δ, S, rfl, s, Keep.refl, e⟩, ?_⟩
  rintro m σc Hc ⟨Gc, δc, Sc, hlen, sc, kpc, hgo⟩
  cases m with
  | zero => cases hgo
  | succ m =>
    unfold whGo at hgo
    split at hgo
    · rename_i S1 ht
      refine evT c2 sc ht (fun b eb G1 H1 s1 kp1 => ?_) (fun c z => nomatch z)
      cases eb
      rw [if_pos rfl]
      refine ⟨fun σn Hn => ∃ (Gc : Gh) (δc : En) (Sc : Sto), σn.length = σ.length ∧ StJ g.wd G0 H0 Gc σn Hn δc Sc ∧ Keep G H Gc Hn ∧ whGo c fb m δc Sc = some (fl, δ', S'), fun σn Hn h => ⟨m, Nat.lt_succ_self m, h⟩, ?_⟩
      split at hgo
      · rename_i δ2 S2 hbd
        refine b2 G0 H0 G1 σc H1 δc S1 _ δ2 S2 _ s1 hbd (fun _ G4 σ4 H4 l4 s4 kp4 => ?_) (fun u z => nomatch z) (fun c z => nomatch z)
        exact ⟨G4, δ2, S2, l4.trans hlen, s4, (kpc.trans kp1).trans kp4, hgo⟩
      · rename_i hne
        refine b2 G0 H0 G1 σc H1 δc S1 fl δ' S' _ s1 hgo (fun z => ?_) k2 (fun c z σ4 G4 H4 l4 gr => k3 c z σ4 G4 H4 (l4.trans hlen) gr)
        subst z
        exact absurd hgo (hne δ' S')
    · rename_i S1 ht
      cases hgo
      refine evT c2 sc ht (fun b eb G1 H1 s1 kp1 => ?_) (fun c z => nomatch z)
      cases eb
      rw [if_neg Bool.false_ne_true]
      exact k1 rfl G1 σc H1 hlen s1 (kpc.trans kp1)
    · rename_i er S1 ht
      cases hgo
      refine evT c2 sc ht (fun b eb => nomatch eb) (fun c' z G' H' gr => ?_)
      cases z
      exact k3 er rfl σc G' H' hlen gr
    · cases hgo
/-! ### raise X('..') -/
structure ExcF (g : Gb) (c : Nat) (x : Str) (bm : List Value) : Prop where
  gC : g.mg x = some (.ref (g.wd.ca c))
  q : PySem.W.excIn g.wd.K (g.wd.ca c) bm "ValueError.__new__" = true
  kC : PySem.W.keepIn g.wd.K (.ref (g.wd.ca c)) = true
  sub : PySem.W.subIn g.wd.K (.ref (g.wd.ca c)) (.type "BaseException") = some true
  ty : PySem.W.typeIn g.wd.K (.ref (g.wd.ca c)) = some (.type "type")
def sRaise (c : Nat) : SemS := fun δ S => some (.ex c, δ, S)
theorem ss_raise (c : Nat) {x m : Str} {j : Nat} {bm : List Value} {initId B : String} {p p2 pos pos2 : Pos} (F : Fm g W k Xf) (E : ExcF g c x bm) (Fb : ExcBaseFacts B "ValueError.__new__" initId bm) (hg : ∀ i, Gl (Xf i) x := by intro _; rfl) (hdb : (x == ("__debug__" : Str)) = false := by decide) :
    SS g W Xf (.Raise (some (.Call (.Name x p) [.Constant (.str m) j p2] [] pos)) none pos2) (sRaise c) := by
  refine ⟨fun _ σ H => W (.ref (g.wd.ca c)) none σ H, fun i => ?_, fun G0 H0 G σ H δ S fl δ' S' D s e k1 k2 k3 => ?_⟩
  · exact ps_raise (F.calm i) (F.takes i) (pmk_own Fb (by rw [F.K i]; exact E.q) (by rw [F.mg i]; exact E.gC) (by rw [F.K i]; exact E.kC) (raises_own (by rw [F.K i]; exact E.sub) (by rw [F.K i]; exact E.ty)) (hg i) hdb)
  · unfold sRaise at e
    cases e
    exact k3 c rfl σ G H rfl s.fr
/-! ### defs -/
abbrev SemF := List U → Sto → Rs U
/-- what a def promises -/
def spD (wd : Wd) (np : Nat) (m : SemF) : Sp := fun vs H Q E => ∃ (G : Gh) (us : List U) (S : Sto) (r : Except Nat U) (S' : Sto), us.length = np ∧ GOk wd G H S ∧ RpUs wd G H vs us ∧ m us S = some (r, S') ∧
  (∀ u, r = .ok u → ∀ v G' H', Grow wd G H G' H' S' → RpU wd G' H' v u → Q v H') ∧ (∀ c, r = .error c → ∀ G' H', Grow wd G H G' H' S' → E (.ref (wd.ca c)) none H')
theorem rpUs_len {wd : Wd} {G : Gh} {H : Hp} : ∀ {vs : List V} {us : List U}, RpUs wd G H vs us → vs.length = us.length
  | _, _, .nil => rfl
  | _, _, .cons _ t => by rw [List.length_cons, List.length_cons, rpUs_len t]
theorem rpUs_get {wd : Wd} {G : Gh} {H : Hp} : ∀ {vs : List V} {us : List U} {i : Nat} {u : U}, RpUs wd G H vs us → us[i]? = some u → ∃ v, vs[i]? = some v ∧ RpU wd G H v u
  | _, _, _, _, .nil, e => by simp at e
  | _, _, 0, _, .cons h _, e => by
    simp at e
    subst e
    exact ⟨_, rfl, h⟩
  | _, _, i + 1, _, .cons _ t, e => by
    obtain ⟨v, e1, r⟩ := rpUs_get (i := i) t (by simpa using e)
    exact ⟨v, by simpa using e1, r⟩
def startE (n : Nat) (us : List U) : En := us.map (fun u => some (Cell.u u)) ++ List.replicate (n - us.length) none
/-- a def's meaning by its body's -/
def fnSem (n : Nat) (body : SemS) : SemF := fun us S => match body (startE n us) S with
  | some (.nx, _, S') => some (.ok (.d .none), S')
  | some (.rt u, _, S') => some (.ok u, S')
  | some (.ex c, _, S') => some (.error c, S')
  | none => none
/-- a def that is known by its meaning -/
structure Fk (g : Gb) (j : Nat) (x : Str) (np : Nat) (m : SemF) : Prop where
  ex : ∃ (f : Addr) (fd : FuncData) (ps : List Str), ps.length = np ∧ FnOk g.P g.w g.wd.K g.mg g.base (L2.CX g.P g.w) j f fd ps (spD g.wd np m) ∧ g.mg x = some (.ref f) ∧ PySem.W.keepIn g.wd.K (.ref f) = true ∧ Binds g.wd.K fd ps []
/-- a body's reading gives what the def promises -/
theorem fn_rd {np : Nat} {N : List Str} {body : SemS} {t : TS} {vs : List V} {H : Hp} {Q : VK} {E : XK} (q1 : RdS g.wd (fun cls d _ H => E cls d H) t body) (h : spD g.wd np (fnSem N.length body) vs H Q E) : t { nx := fun _ H' => Q .non H', rt := Q } (L2.start N vs) H := by
  obtain ⟨G, us, S, r, S', hl, ok, rv, e, k1, k2⟩ := h
  have hlv := rpUs_len rv
  have sj : StJ g.wd G H G (L2.start N vs) H (startE N.length us) S := by
    refine ⟨ok.fresh, Grow.refl ok, fun i u ei => ?_, fun i xs ei => ?_, fun i l xs ys a ei => ?_, ?_⟩
    · unfold startE at ei
      by_cases hi : i < us.length
      · rw [List.getElem?_append_left (by simpa using hi), List.getElem?_map] at ei
        cases hu : us[i]? with
        | none => rw [hu] at ei; cases ei
        | some w =>
          rw [hu] at ei
          cases ei
          obtain ⟨v, e1, r1⟩ := rpUs_get rv hu
          refine ⟨v, ?_, r1⟩
          unfold L2.start
          rw [List.getElem?_append_left (by rw [List.length_map, hlv]; exact hi), List.getElem?_map, e1]
          rfl
      · rw [List.getElem?_append_right (by simpa using hi), List.getElem?_replicate] at ei
        split at ei <;> cases ei
    · exfalso
      unfold startE at ei
      by_cases hi : i < us.length
      · rw [List.getElem?_append_left (by simpa using hi), List.getElem?_map] at ei
        cases hu : us[i]? with
        | none => rw [hu] at ei; cases ei
        | some w => rw [hu] at ei; cases ei
      · rw [List.getElem?_append_right (by simpa using hi), List.getElem?_replicate] at ei
        split at ei <;> cases ei
    · exfalso
      unfold startE at ei
      by_cases hi : i < us.length
      · rw [List.getElem?_append_left (by simpa using hi), List.getElem?_map] at ei
        cases hu : us[i]? with
        | none => rw [hu] at ei; cases ei
        | some w => rw [hu] at ei; cases ei
      · rw [List.getElem?_append_right (by simpa using hi), List.getElem?_replicate] at ei
        split at ei <;> cases ei
    · unfold startE L2.start
      simp only [List.length_append, List.length_map, List.length_replicate]
      omega
  unfold fnSem at e
  split at e
  · rename_i δ1 S1 hbd'
    cases e
    exact q1 G H G _ H _ S _ δ1 _ _ sj hbd' (fun _ G1 σ1 H1 l1 s1 kp1 => k1 _ rfl .non G1 H1 s1.fr .non) (fun u z => nomatch z) (fun c z => nomatch z)
  · rename_i u δ1 S1 hbd'
    cases e
    refine q1 G H G _ H _ S _ δ1 _ _ sj hbd' (fun z => nomatch z) (fun u' z v G1 H1 gr r1 => ?_) (fun c z => nomatch z)
    cases z
    exact k1 _ rfl v G1 H1 gr r1
  · rename_i c δ1 S1 hbd'
    cases e
    refine q1 G H G _ H _ S _ δ1 _ _ sj hbd' (fun z => nomatch z) (fun u' z => nomatch z) (fun c' z σ1 G1 H1 l1 gr => ?_)
    cases z
    exact k2 c rfl G1 H1 gr
  · cases e
theorem fn_mk {j : Nat} {x : Str} {st : Stmt} {f : Addr} {fd : FuncData} {N ps : List Str} {body : SemS} (F : Fun g.wd.K x x st f fd) (hS : FnScope N ps (defScope st))
    (hb : ∀ (cdv : Value) (A : Around) (outer : List Env) (s : Shared) (H : Hp) (E : XK), Fm g (fun cls d _ H => E cls d H) j (fun _ : Unit => cxOf (L2.CX g.P g.w) g.P g.w g.wd.K g.mg g.base N x (defScope st) f cdv A outer s H E) →
      SSs g (fun cls d _ H => E cls d H) (fun _ : Unit => cxOf (L2.CX g.P g.w) g.P g.w g.wd.K g.mg g.base N x (defScope st) f cdv A outer s H E) (defBody st) body) :
    FnOk g.P g.w g.wd.K g.mg g.base (L2.CX g.P g.w) (j + 1) f fd ps (spD g.wd ps.length (fnSem N.length body)) := by
  refine F.okX hS (fun vs H Q E h => ?_) (fun cdv A outer s H vs Q E hr h => ?_)
  · obtain ⟨G, us, S, r, S', hl, _, rv, _⟩ := h
    rw [rpUs_len rv, hl]
  · obtain ⟨G, us, S, r, S', hl, ok, rv, e, k1, k2⟩ := h
    have FM : Fm g (fun cls d _ H => E cls d H) j (fun _ : Unit => cxOf (L2.CX g.P g.w) g.P g.w g.wd.K g.mg g.base N x (defScope st) f cdv A outer s H E) :=
      ⟨fun _ => rfl, fun _ => rfl, fun _ => rfl, fun _ => rfl, fun _ => rfl, fun _ => rfl, fun _ => hr, fun _ => takes_of rfl rfl rfl rfl, fun _ => hS.nd, fun _ => passes_of rfl⟩
    obtain ⟨t, p1, q1⟩ := hb cdv A outer s H E FM
    exact ⟨t, p1 (), fn_rd q1 ⟨G, us, S, r, S', hl, ok, rv, e, k1, k2⟩⟩
theorem fk_mk {j : Nat} {x : Str} {st : Stmt} {f : Addr} {fd : FuncData} {N ps : List Str} {body : SemS} (F : Fun g.wd.K x x st f fd) (hm : g.mg x = some (.ref f)) (hS : FnScope N ps (defScope st)) (hbd : Binds g.wd.K fd ps [])
    (hb : ∀ (cdv : Value) (A : Around) (outer : List Env) (s : Shared) (H : Hp) (E : XK), Fm g (fun cls d _ H => E cls d H) j (fun _ : Unit => cxOf (L2.CX g.P g.w) g.P g.w g.wd.K g.mg g.base N x (defScope st) f cdv A outer s H E) →
      SSs g (fun cls d _ H => E cls d H) (fun _ : Unit => cxOf (L2.CX g.P g.w) g.P g.w g.wd.K g.mg g.base N x (defScope st) f cdv A outer s H E) (defBody st) body) :
    Fk g (j + 1) x ps.length (fnSem N.length body) := ⟨f, fd, ps, rfl, fn_mk F hS hb, hm, F.kp, hbd⟩
/-! ### calls of defs -/
def eCall (m : SemF) (np : Nat) (a : SemA) : SemE := fun δ S => bnd (a δ S) fun us S => if us.length = np then m us S else none
theorem rd_call {wd : Wd} {np : Nat} {m : SemF} {t : TA} {a : SemA} (ha : RdA wd W t a) : RdE wd W (tCallS (spD wd np m) (WE W) t) (eCall m np a) := fun G σ H δ S z S' Q s0 e k1 k2 => by
  rcases bnd_some e with ⟨us, S1, ea, e2⟩ | ⟨c, ec, ez⟩
  · refine ha G σ H δ S _ S1 _ s0 ea (fun x ex vs G1 H1 gr1 rv => ?_) (fun c ec => nomatch ec)
    cases ex
    split at e2
    · rename_i hl
      exact ⟨G1, us, S1, z, S', hl, gr1.ok, rv, e2, fun u eu v G2 H2 gr2 r2 => k1 u eu v G2 H2 (gr1.trans gr2) r2, fun c ec G2 H2 gr2 => k2 c ec G2 H2 (gr1.trans gr2)⟩
    · cases e2
  · subst ez
    refine ha G σ H δ S _ S' _ s0 ec (fun xs exs => nomatch exs) (fun c' ec' G2 H2 gr2 => ?_)
    cases ec'
    exact k2 c rfl G2 H2 gr2
theorem se_call {j : Nat} {x : Str} {np : Nat} {m : SemF} {e : Expr} {es : List Expr} {a : SemA} {p pos : Pos} (F : Fm g W k Xf) (D : Fk g j x np m) (ha : SA g W Xf (e :: es) a) (hj : j ≤ k := by decide) (hg : ∀ i, Gl (Xf i) x := by intro _; rfl) (hdb : (x == ("__debug__" : Str)) = false := by decide)
    (he : ∀ i, starEach (e :: es) (Xf i).env = (false, eval e (Xf i).env) :: starEach es (Xf i).env := by intro _; rfl) (hpl : ∀ i, (backTo pos (starEach es (Xf i).env)).any (·.1) = false := by intro _; rfl) :
    SE g W Xf (.Call (.Name x p) (e :: es) [] pos) (eCall m np a) := by
  obtain ⟨f, fd, ps, hl, FO, hm, hk, hb⟩ := D.ex
  obtain ⟨t, p1, q1⟩ := ha
  refine ⟨tCallS (spD g.wd np m) (WE W) t, fun i => ?_, rd_call q1⟩
  have FO' : FnOk (Xf i).prog (Xf i).w (Xf i).K (Xf i).mg (Xf i).base (L2.CX (Xf i).prog (Xf i).w) j f fd ps (spD g.wd np m) := by
    rw [F.prog i, F.w i, F.K i, F.mg i, F.base i]
    exact FO
  exact pe_callS FO' ((F.room i).mono hj) (hg i) (by rw [F.mg i]; exact hm) (by rw [F.K i]; exact hk) (by rw [F.K i]; exact hb) (fun σ => passAt (F.takes i) σ) (p1 i) hdb (he i) (hpl i)
end
end DL
set_option maxHeartbeats 1000000
/-! The data layer: the script and the law's list of draws. -/
namespace DL
open PySem L2 PySem.W PySem.SeqAt
theorem scr_sq {wd : Wd} {G : Gh} {H : Hp} {S : Sto} (ok : GOk wd G H S) : SqL wd.K H wd.sa (wd.ns.map V.int) := by
  rcases ok.scr with ⟨o, h⟩ | h
  · exact .inl (.inr ⟨o, h⟩)
  · rcases h with (h | ⟨o, h⟩) | h
    · cases h
    · cases h
    · exact .inr h
def scD (ns : List Int) : PyData := .list (ns.map .int)
theorem scr_dp {wd : Wd} {G : Gh} {H : Hp} {S : Sto} (ok : GOk wd G H S) : Dp wd.K H (.ref wd.sa) (scD wd.ns) := by
  refine .lst (scr_sq ok) ?_
  have : ∀ ns : List Int, DpAll wd.K H (ns.map V.int) (ns.map PyData.int) := by
    intro ns
    induction ns with
    | nil => exact .nil
    | cons n ns ih => exact .cons (.int n) ih
  exact this _
section
variable {g : Gb} {W : WX} {ι : Type} {Xf : ι → Cx} {k : Nat}
/-! ### the script read -/
def oLenS (ns : List Int) : List U → Option U
  | [.sc] => some (.d (.int ns.length))
  | _ => none
theorem ok_lenS (F : Fm g W k Xf) : CallOk g Xf (.builtin "len") (oLenS g.wd.ns) := by
  refine ⟨fun xs H Q => ∃ p ys, xs = [.ref p] ∧ (SqL g.wd.K H p ys ∨ SqT g.wd.K H p ys) ∧ Q (.int ys.length) H, fun i => F.K i ▸ call_len_seq, fun G H S vs us z Q ok rv e k => ?_⟩
  unfold oLenS at e
  split at e
  · cases e
    obtain ⟨v, rfl, h⟩ := rpUs1 rv
    cases h
    exact ⟨_, _, rfl, .inl (scr_sq ok), by rw [List.length_map]; exact k _ G H (Grow.refl ok) (.int _)⟩
  · cases e
def oIxS (ns : List Int) : U → U → Option U
  | .sc, .d (.int i) => match atI ns i with
    | some x => some (.d (.int x))
    | none => none
  | _, _ => none
theorem atI_map {ns : List Int} {i x : Int} (h : atI ns i = some x) : atI (ns.map V.int) i = some (.int x) := by
  unfold atI at h ⊢
  rw [List.length_map]
  cases hj : ixN ns.length i with
  | none => rw [hj] at h; cases h
  | some j =>
    rw [hj] at h
    show (ns.map V.int)[j]? = _
    have h : ns[j]? = some x := h
    rw [List.getElem?_map, h]
    rfl
theorem rdO_ixS {wd : Wd} : RdO wd (rIx wd.K) (oIxS wd.ns) := fun G H S x y u w z Q ok rx ry e k => by
  unfold oIxS at e
  split at e
  · split at e
    · rename_i hz
      cases e
      cases ry
      cases rx
      exact .inl ⟨_, _, _, _, rfl, rfl, scr_sq ok, atI_map hz, k _ G H (Grow.refl ok) (.int _)⟩
    · cases e
  · cases e
theorem se_ixS {a b : Expr} {f h : SemE} {pos : Pos} (F : Fm g W k Xf) (ha : SE g W Xf a f) (hb : SE g W Xf b h) (hs : PlainIx b := by exact fun _ _ => rfl) : SE g W Xf (.Subscript a b pos) (eOp (oIxS g.wd.ns) f h) := by
  obtain ⟨t, p1, q1⟩ := ha
  obtain ⟨u, p2, q2⟩ := hb
  exact ⟨tOp (rIx g.wd.K) t u, fun i => pe_ix (F.K i ▸ ix_seq) (p1 i) (p2 i) hs, rd_op rdO_ixS q1 q2⟩
def cEqS (ns : List Int) : U → U → Option U
  | .sc, .d y => match eqP (scD ns) y with
    | some b => some (.d (.bool b))
    | none => none
  | _, _ => none
theorem ok_eqS (F : Fm g W k Xf) : OpOk g Xf (compareOp .Eq) (cEqS g.wd.ns) := by
  refine ⟨_, fun i => F.K i ▸ opr_eq (F.room i), fun G H S x y u w z Q ok rx ry e k => ?_⟩
  unfold cEqS at e
  split at e
  · split at e
    · rename_i b hb
      cases e
      cases rx
      exact ⟨_, _, b, scr_dp ok, Rp.dp _ _ _ ry, hb, k _ G H (Grow.refl ok) (.bl b)⟩
    · cases e
  · cases e
/-! ### the town -/
def eLenTw (i : Nat) : SemE := fun δ S => match δ[i]?, S.tw with
  | some (some (.u .tw)), some n => some (.ok (.d (.int n)), S)
  | _, _ => none
theorem se_lenTw (i : Nat) {x : Str} {p p2 pos : Pos} (F : Fm g W k Xf) (hm : g.mg "len" = none) (hN : ∀ j, (Xf j).N[i]? = some x := by intro _; rfl)
    (hv : ∀ j, Vis (Xf j).env.scope x := by first | exact fun _ => Or.inl rfl | exact fun _ => Or.inr (Or.inl rfl) | exact fun _ => Or.inr (Or.inr rfl)) (hd : (x == ("__debug__" : Str)) = false := by decide) (hcd : (x == ("__classdict__" : Str)) = false := by decide)
    (hg : ∀ i, Gl (Xf i) "len" := by intro _; rfl) : SE g W Xf (.Call (.Name "len" p) [.Name x p2] [] pos) (eLenTw i) := by
  refine ⟨tCB (fun xs H Q => ∃ p ys, xs = [.ref p] ∧ (SqL g.wd.K H p ys ∨ SqT g.wd.K H p ys) ∧ Q (.int ys.length) H) (tCons (tVar i) tNil), fun j => ?_, fun G σ H δ S z S' Q s0 e k1 k2 => ?_⟩
  · exact pe_callB (F.K j ▸ call_len_seq) (hg j) (by rw [F.mg j]; exact hm) PySem.boot_len (pa_cons (pe_var (hN j) (hv j) hd hcd) pa_nil)
  · unfold eLenTw at e
    split at e
    · rename_i n hi hn
      cases e
      obtain ⟨v, hv', a, ha, rfl⟩ := s0.at_ i .tw hi
      obtain ⟨xs, hx, hl⟩ := s0.ok.town a ha
      rw [hn] at hl
      cases hl
      exact ⟨.ref a, hv', a, xs, rfl, .inl (.inl (.inl hx)), k1 _ rfl _ G H (Grow.refl s0.ok) (.int _)⟩
    · cases e
/-- town.append(0): one draw more -/
def sTwApp (i : Nat) : SemS := fun δ S => match δ[i]?, S.tw with
  | some (some (.u .tw)), some n => if n < LIM then some (.nx, δ, { S with tw := some (n + 1) }) else none
  | _, _ => none
theorem grow_town {wd : Wd} {G : Gh} {H : Hp} {S : Sto} {a : Addr} {xs ys : List V} (ok : GOk wd G H S) (ha : G.ta = some a) (hx : H a = some (.lst xs)) (n : Nat) (hn : ys.length = n) : Grow wd G H G (upd H a (.lst ys)) { S with tw := some n } := by
  have ne : ∀ b o, H b = some o → b ≠ a → upd H a (.lst ys) b = some o := fun b o e n => by rw [upd_ne n]; exact e
  have mF : ¬ G.F a := ok.mF a (.inl ha)
  have nT : ∀ b zs, H b = some (.tup zs) → upd H a (.lst ys) b = some (.tup zs) := fun b zs e => ne b _ e (fun z => by rw [z, hx] at e; cases e)
  refine ⟨⟨fun p hp => ok.fresh p ?_, ok.mF, fun b hb => ?_, (fun z => nomatch z), ok.olen, fun k t og h1 h2 => ?_, ok.nd1, ok.nd2, ok.ndt, ?_⟩, fun _ h => h, fun _ _ _ h => h, fun b o h m => ne b o h (fun z => m (z ▸ .inl ha)), fun _ h => .inl h, fun b o h => ?_, fun _ h => h, fun _ t h => ⟨t.2, h⟩⟩
  · by_cases z : p = a
    · rw [z, upd_same] at hp; cases hp
    · rw [upd_ne z] at hp; exact hp
  · rw [ha] at hb
    cases hb
    exact ⟨ys, upd_same, by rw [hn]⟩
  · obtain ⟨dx, ws, e1, e2, r⟩ := ok.org k t og h1 h2
    have mt := List.mem_of_getElem? h1
    exact ⟨dx, ws, ne _ _ e1 (fun z => by rw [z, hx] at e1; cases e1), ne _ _ e2 (ok.ndt a ha t mt), RpAll.move (fun _ _ f _ => f.elim) (fun b zs r => nT b zs r) _ _ r⟩
  · rcases ok.scr with ⟨ob, e⟩ | e
    · exact .inl ⟨ob, ne _ _ e (fun z => by rw [z, hx] at e; cases e)⟩
    · exact .inr e
  · by_cases z : b = a
    · rw [z]; exact ⟨_, upd_same⟩
    · exact ⟨o, ne b o h z⟩
theorem ss_twApp (i : Nat) {x : Str} {j0 : Nat} {p p2 apos cpos pos : Pos} (F : Fm g W k Xf) (hN : ∀ j, (Xf j).N[i]? = some x := by intro _; rfl)
    (hv : ∀ j, Vis (Xf j).env.scope x := by first | exact fun _ => Or.inl rfl | exact fun _ => Or.inr (Or.inl rfl) | exact fun _ => Or.inr (Or.inr rfl)) (hd : (x == ("__debug__" : Str)) = false := by decide) (hcd : (x == ("__classdict__" : Str)) = false := by decide) (hline : (apos.endLine == cpos.line) = true := by rfl)
    (hb : ∀ j, attributeBase (.Name x p) "append" (Xf j).env (eval (.Name x p) (Xf j).env) = eval (.Name x p) (Xf j).env := by intro _; rfl) (hw : ∀ j, swapsWith (.Call (.Attribute (.Name x p) "append" apos) [.Constant (.int 0) j0 p2] [] cpos) none pos.line (Xf j).env = pure false := by intro _; rfl) :
    SS g W Xf (.Expr (.Call (.Attribute (.Name x p) "append" apos) [.Constant (.int 0) j0 p2] [] cpos) pos) (sTwApp i) := by
  refine ⟨tDrop (tBM g.wd.K "list" rAppend (tVar i) (tCons (tC (.int 0)) tNil)), ps_m1 i F PySem.F.slot_list_append PySem.F.type_list_append (fun j => mt_append) (fun _ => pe_int) hN hv hd hcd (fun _ => rfl) hline hb hw, fun G0 H0 G σ H δ S fl δ' S' D s e k1 k2 k3 => ?_⟩
  unfold sTwApp at e
  split at e
  · rename_i n hi hn
    split at e
    · rename_i hl
      cases e
      obtain ⟨v, hv', a, ha, rfl⟩ := s.at_ i .tw hi
      obtain ⟨xs, hx, hlen⟩ := s.ok.town a ha
      rw [hn] at hlen
      cases hlen
      have gr := grow_town (ys := xs ++ [V.int 0]) s.ok ha hx (xs.length + 1) (by simp)
      exact ⟨.ref a, hv', .inl ⟨rfl, xs, .inl (.inl hx)⟩, a, xs, .int 0, rfl, rfl, hx, lim_lt hl, k1 rfl G σ _ rfl (s.grow gr) (gr.kp s.ok)⟩
    · cases e
  · cases e
/-- town = [] -/
def sTown (i : Nat) : SemS := fun δ S => match S.tw with
  | none => some (.nx, δ.set i (some (.u .tw)), { S with tw := some 0 })
  | some _ => none
theorem ss_town (i : Nat) {x : Str} {pos pos' pos2 : Pos} (F : Fm g W k Xf) (hi : ∀ j, (Xf j).N[i]? = some x := by intro _; rfl) (hx : ∀ j, Loc (Xf j).env.scope x := by first | exact fun _ => Or.inl rfl | exact fun _ => Or.inr rfl)
    (hs : ∀ j, swapsWith (.List [] pos2) (some (.Name x pos')) pos.line (Xf j).env = pure false := by intro _; rfl) (hf : ∀ j, (Xf j).fn x = true ∨ (Xf j).env.scope.names.lookup x = some .local := by first | exact fun _ => Or.inl rfl | exact fun _ => Or.inr rfl) :
    SS g W Xf (.Assign [.Name x pos'] (.List [] pos2) pos) (sTown i) := by
  refine ⟨tAsg (tLst tNil) (gName i), set_ok i F (fun j => pe_lst pa_nil) hi hx hs hf, fun G0 H0 G σ H δ S fl δ' S' D s e k1 k2 k3 => ?_⟩
  unfold sTown at e
  split at e
  · rename_i hn
    cases e
    refine ⟨Nat.zero_le _, fun p hp => ?_⟩
    have hta := s.ok.townN hn
    have gn := Grow.new (o := .lst []) s.ok hp
    have ok := gn.ok
    have gr : Grow g.wd G H { G with F := fun a => G.F a ∧ a ≠ p, ta := some p } (upd H p (.lst [])) { S with tw := some 0 } := by
      have hM : ∀ a, Gh.M { G with F := fun a => G.F a ∧ a ≠ p, ta := some p } a → G.M a ∨ a = p := fun a m => by
        rcases m with m | m
        · cases m
          exact .inr rfl
        · exact .inl (.inr m)
      refine ⟨⟨fun q hq => ⟨ok.fresh q hq, fun z => by rw [z, upd_same] at hq; cases hq⟩, fun a m f => ?_, fun a ha => ?_, (fun z => nomatch z), ok.olen, ok.org, ok.nd1, ok.nd2, fun a ha t ht z => ?_, ok.scr⟩, fun a f => f.1, fun a o h f => ⟨f, ne_of_none h hp⟩, gn.same, fun a m => ?_, gn.there, fun a h => ?_, fun _ t h => ⟨t.2, h⟩⟩
      · rcases hM a m with z | z
        · exact s.ok.mF a z f.1
        · exact f.2 z
      · cases ha
        exact ⟨[], upd_same, rfl⟩
      · cases ha
        rcases s.ok.mut (a := p) (.inr ⟨t, ht, .inr z.symm⟩) with ⟨xs, e⟩ | ⟨C, dx, fs, e⟩ <;> (rw [hp] at e; cases e)
      · rcases hM a m with z | z
        · exact .inl z
        · rw [z]; exact .inr hp
      · rw [hta] at h; cases h
    exact k1 rfl _ _ _ (by simp) ((s.grow gr).setU (v := .ref p) (u := .tw) ⟨p, rfl, rfl⟩) (gr.kp s.ok)
  · cases e
end
end DL
set_option maxHeartbeats 1000000
/-! The data layer: len(set(xs)), xs a list of tuples of ints, or of ints. -/
namespace DL
open PySem L2 PySem.W PySem.SeqAt
theorem nodup_len {α : Type} [DecidableEq α] : ∀ {l m : List α}, l.Nodup → (∀ x ∈ l, x ∈ m) → l.length ≤ m.length
  | [], m, _, _ => Nat.zero_le _
  | x :: l, m, nd, h => by
    have hx := h x List.mem_cons_self
    have ih := nodup_len (l := l) (m := m.erase x) (List.nodup_cons.mp nd).2 fun y hy => by
      refine (List.mem_erase_of_ne fun e => ?_).mpr (h y (List.mem_cons_of_mem _ hy))
      subst e
      exact (List.nodup_cons.mp nd).1 hy
    rw [List.length_erase_of_mem hx] at ih
    have : 0 < m.length := List.length_pos_of_mem hx
    rw [List.length_cons]
    omega
/-- the different ones, in the order of their first coming -/
def ddp {α : Type} [DecidableEq α] (acc : List α) : List α → List α
  | [] => acc
  | x :: l => if x ∈ acc then ddp acc l else ddp (acc ++ [x]) l
theorem ddp_ok {α : Type} [DecidableEq α] : ∀ (l acc : List α), acc.Nodup → (ddp acc l).Nodup ∧ ∀ x, x ∈ ddp acc l ↔ x ∈ acc ∨ x ∈ l
  | [], acc, nd => ⟨nd, fun x => by unfold ddp; simp⟩
  | y :: l, acc, nd => by
    unfold ddp
    by_cases hy : y ∈ acc
    · rw [if_pos hy]
      obtain ⟨h1, h2⟩ := ddp_ok l acc nd
      refine ⟨h1, fun x => (h2 x).trans ?_⟩
      rw [List.mem_cons]
      refine ⟨fun h => h.imp id .inr, fun h => ?_⟩
      rcases h with h | h | h
      · exact .inl h
      · exact .inl (h ▸ hy)
      · exact .inr h
    · rw [if_neg hy]
      obtain ⟨h1, h2⟩ := ddp_ok l (acc ++ [y]) (by
        rw [List.nodup_append]
        exact ⟨nd, by simp, fun a ha b hb e => by
          simp at hb
          subst hb
          exact hy (e ▸ ha)⟩)
      refine ⟨h1, fun x => (h2 x).trans ?_⟩
      rw [List.mem_append, List.mem_singleton, List.mem_cons]
      exact ⟨fun h => by
        rcases h with (h | h) | h
        · exact .inl h
        · exact .inr (.inl h)
        · exact .inr (.inr h), fun h => by
        rcases h with h | h | h
        · exact .inl (.inl h)
        · exact .inl (.inr h)
        · exact .inr h⟩
def ndist {α : Type} [DecidableEq α] (l : List α) : Nat := (ddp [] l).length
theorem ndist_of {α : Type} [DecidableEq α] {l m : List α} (nd : m.Nodup) (h : ∀ x, x ∈ m ↔ x ∈ l) : m.length = ndist l := by
  obtain ⟨h1, h2⟩ := ddp_ok l [] List.nodup_nil
  have e : ∀ x, x ∈ ddp [] l ↔ x ∈ m := fun x => (h2 x).trans (by rw [h x]; simp)
  have a := nodup_len nd fun x hx => (e x).mpr hx
  have b := nodup_len h1 fun x hx => (e x).mp hx
  unfold ndist
  omega
theorem ndist_nodup {α : Type} [DecidableEq α] (l : List α) : ndist l = l.length ↔ l.Nodup := by
  constructor
  · intro h
    obtain ⟨h1, h2⟩ := ddp_ok l [] List.nodup_nil
    have : ∀ (l : List α), (∃ m : List α, m.Nodup ∧ m.length = l.length ∧ ∀ x ∈ m, x ∈ l) → l.Nodup := by
      intro l
      induction l with
      | nil => intro _; exact List.nodup_nil
      | cons y l ih =>
        rintro ⟨m, nm, hl, hs⟩
        have hy : y ∈ m := Classical.byContradiction fun hn => by
          have := nodup_len nm (m := l) fun x hx => by
            rcases List.mem_cons.mp (hs x hx) with e | e
            · exact absurd (e ▸ hx) hn
            · exact e
          rw [hl, List.length_cons] at this
          omega
        have nyl : y ∉ l := fun hyl => by
          have := nodup_len nm (m := l) fun x hx => by
            rcases List.mem_cons.mp (hs x hx) with e | e
            · exact e ▸ hyl
            · exact e
          rw [hl, List.length_cons] at this
          omega
        refine List.nodup_cons.mpr ⟨nyl, ih ⟨m.erase y, nm.erase y, ?_, fun x hx => ?_⟩⟩
        · rw [List.length_erase_of_mem hy, hl]; rfl
        · have := nm.mem_erase_iff.mp hx
          rcases List.mem_cons.mp (hs x this.2) with e | e
          · exact absurd e this.1
          · exact e
    exact this l ⟨ddp [] l, h1, h, fun x hx => by
      rcases (h2 x).mp hx with z | z
      · cases z
      · exact z⟩
  · intro nd
    exact (ndist_of nd fun _ => Iff.rfl).symm
def intsOf : List PyData → Option (List Int)
  | [] => some []
  | .int i :: r => match intsOf r with
    | some l => some (i :: l)
    | none => none
  | _ => none
def tupsOf : List PyData → Option (List (List Int))
  | [] => some []
  | .tuple xs :: r => (match intsOf xs, tupsOf r with
    | some l, some m => some (l :: m)
    | _, _ => none)
  | _ => none
theorem intsOf_vs {F : Addr → Prop} {H : Hp} : ∀ {ds : List PyData} {vs : List V} {l : List Int}, RpAll F H vs ds → intsOf ds = some l → vs = l.map V.int
  | [], _, _, h, e => by
    cases h
    cases e
    rfl
  | d :: ds, _, _, h, e => by
    cases h with
    | cons h t =>
      cases d with
      | int i =>
        unfold intsOf at e
        split at e
        · rename_i l hl
          cases e
          cases h
          rw [intsOf_vs t hl]
          rfl
        · cases e
      | none => cases e
      | bool _ => cases e
      | str _ => cases e
      | list _ => cases e
      | tuple _ => cases e
      | dict _ => cases e
theorem tupsOf_vs {F : Addr → Prop} {H : Hp} : ∀ {ds : List PyData} {vs : List V} {l : List (List Int)}, RpAll F H vs ds → tupsOf ds = some l → ∃ ks : List (Addr × List Int), vs = ks.map (fun p => V.ref p.1) ∧ l = ks.map (·.2) ∧ ∀ p ∈ ks, H p.1 = some (.tup (p.2.map V.int))
  | [], _, _, h, e => by
    cases h
    cases e
    exact ⟨[], rfl, rfl, fun _ h => nomatch h⟩
  | d :: ds, _, _, h, e => by
    cases h with
    | cons h t =>
      cases d with
      | tuple xs =>
        unfold tupsOf at e
        split at e
        · rename_i l m hl hm
          cases e
          cases h with
          | tup ha ra =>
            obtain ⟨ks, e1, e2, e3⟩ := tupsOf_vs t hm
            have := intsOf_vs ra hl
            subst this
            refine ⟨(_, l) :: ks, by rw [e1]; rfl, by rw [e2]; rfl, fun p hp => ?_⟩
            rcases List.mem_cons.mp hp with rfl | hp
            · exact ha
            · exact e3 p hp
        · cases e
      | none => cases e
      | bool _ => cases e
      | str _ => cases e
      | list _ => cases e
      | int _ => cases e
      | dict _ => cases e
def lenSetD (xs : List PyData) : Option Nat := if xs.length < 64 then (match tupsOf xs with
  | some l => some (ndist l)
  | none => match intsOf xs with
    | some l => some (ndist l)
    | none => none) else none
def tLenSetA (K : PySem.W.Frag) (ta : TE) : TE := fun σ H Q => ta σ H fun x H1 => ∃ (l : Addr) (n : Nat), x = .ref l ∧ ((∃ ks : List (Addr × List Int), SqL K H1 l (ks.map fun p => V.ref p.1) ∧ (∀ p ∈ ks, SqT K H1 p.1 (p.2.map V.int)) ∧ ks.length < 64 ∧ n = ndist (ks.map (·.2))) ∨
  ∃ ns : List Int, SqL K H1 l (ns.map V.int) ∧ ns.length < 64 ∧ n = ndist ns) ∧ Q (.int n) H1
theorem mem_firstMet (f : Nat → Int) : ∀ (n : Nat) (x : Int), x ∈ PyProof.Rows.firstMet f n ↔ ∃ i, i < n ∧ f i = x
  | 0, x => ⟨(fun h => nomatch h), fun ⟨_, h, _⟩ => absurd h (by omega)⟩
  | n + 1, x => by
    rw [PyProof.Rows.firstMet_succ]
    unfold PyProof.Rows.step_dedup
    have ih := mem_firstMet f n
    split
    · rename_i hc
      obtain ⟨y, hy, ey⟩ := List.any_eq_true.mp hc
      have ey : y = f n := eq_of_beq ey
      rw [ih x]
      constructor
      · rintro ⟨i, hi, e⟩; exact ⟨i, by omega, e⟩
      · rintro ⟨i, hi, e⟩
        by_cases h : i = n
        · subst h
          subst e
          rw [← ey]
          exact (ih y).mp hy
        · exact ⟨i, by omega, e⟩
    · rw [List.mem_append, ih x, List.mem_singleton]
      constructor
      · rintro (⟨i, hi, e⟩ | e)
        · exact ⟨i, by omega, e⟩
        · exact ⟨n, by omega, e.symm⟩
      · rintro ⟨i, hi, e⟩
        by_cases h : i = n
        · subst h; exact .inr e.symm
        · exact .inl ⟨i, by omega, e⟩
theorem nodup_firstMet (f : Nat → Int) : ∀ (n : Nat), (PyProof.Rows.firstMet f n).Nodup
  | 0 => List.nodup_nil
  | n + 1 => by
    rw [PyProof.Rows.firstMet_succ]
    unfold PyProof.Rows.step_dedup
    split
    · exact nodup_firstMet f n
    · rename_i hc
      rw [List.nodup_append]
      refine ⟨nodup_firstMet f n, by simp, fun a ha b hb e => ?_⟩
      simp at hb
      subst hb
      subst e
      exact hc (List.any_eq_true.mpr ⟨_, ha, by simp⟩)
theorem firstMet_ndist (ns : List Int) : (PyProof.Rows.firstMet (fun i => ns.getD i 0) ns.length).length = ndist ns := by
  refine ndist_of (nodup_firstMet _ _) fun x => ?_
  rw [mem_firstMet]
  constructor
  · rintro ⟨i, hi, e⟩
    rw [List.getD_eq_getElem?_getD, List.getElem?_eq_getElem hi] at e
    have e : ns[i] = x := e
    rw [← e]
    exact List.getElem_mem hi
  · intro h
    obtain ⟨i, hi, e⟩ := List.getElem_of_mem h
    refine ⟨i, hi, ?_⟩
    rw [List.getD_eq_getElem?_getD, List.getElem?_eq_getElem hi]
    exact e
section
variable {X : Cx} {k : Nat}
theorem pe_lenSetA {a : Expr} {ta : TE} {p p2 q pos : Pos} (hr : Room k X.A) (hc : X.calm = true) (hg : Gl X "len") (hm : X.mg "len" = none) (hg2 : Gl X "set") (hm2 : X.mg "set" = none) (ha : PE X a ta)
    (na : starEach [a] X.env = (false, eval a X.env) :: starEach [] X.env) : PE X (.Call (.Name "len" p) [.Call (.Name "set" p2) [a] [] q] [] pos) (tLenSetA X.K ta) := by
  refine ⟨fun pins s σ H Q I h => ?_⟩
  refine PyProof.Rows.Call_ (ld_blt I hg hm PySem.boot_len ?_)
  refine PyProof.Rows.callWith_builtin1 (PyProof.Rows.args_cons ?_ rfl) rfl rfl
  refine PyProof.Rows.Call_ (ld_blt I hg2 hm2 PyProof.Rows.boot_set ?_)
  refine PyProof.Rows.callWith_type1 (PyProof.Rows.args_cons (thn (ha.run pins s σ H _ I h) fun v s1 ⟨x, H1, I1, r1, q1⟩ => PyProof.Rows.args_nil ?_) na) na rfl
  obtain ⟨l, n, rfl, hcase, q1⟩ := q1
  cases r1
  rcases hcase with ⟨ks, hq, hks, h64, rfl⟩ | ⟨ns, hq, h64, rfl⟩
  · obtain ⟨its, r, pl, hz⟩ := I1.list hq
    refine call_set_tups (P := X.prog) (w := X.w) ks (I1.ok.hd hc) pl.isList (by simpa using refs_of_vals r) (fun p hp => I1.isT (hks p hp)) h64 (by have := hr.un; omega) fun h' tk L es ep t R gt kp => ?_
    refine PyProof.Rows.args_nil ?_
    have I2 : Inv X pins σ H1 { s1 with heap := h', toks := tk } := I1.kept kp
    obtain ⟨o, ho, hex, hd⟩ := R.ob
    have hsz : es.size = L.length := SetTR.size (s := { s1 with heap := h', toks := tk }) R
    have hfits : t.fits es.size = true := SetTR.fits (s := { s1 with heap := h', toks := tk }) R
    have hfew := R.few
    have hlen : L.length = ndist (ks.map (·.2)) := by
      have e := ndist_of (l := ks.map (·.2)) R.nd fun x => ⟨fun hx => ?_, fun hx => ?_⟩
      · rw [List.length_map] at e
        exact e
      · obtain ⟨p, hp, rfl⟩ := List.mem_map.mp hx
        exact List.mem_map_of_mem (List.mem_of_mem_take (gt.sub p hp))
      · obtain ⟨p, hp, rfl⟩ := List.mem_map.mp hx
        exact gt.all p (by rw [List.take_length]; exact hp)
    exact call_len_set ho hex hd hfits (by rw [hsz]; omega) ⟨.int (ndist (ks.map (·.2))), H1, I2.tok _, ⟨_, by rw [hsz, hlen]⟩, q1⟩
  · obtain ⟨its, r, pl, hz⟩ := I1.list hq
    have hl : its.toArray.size = ns.length := by rw [List.size_toArray, ← r.length, List.length_map]
    refine call_set_list (I1.ok.hd hc) pl.isList (ns := ns) (by simpa using r.ints) (by unfold scanBound; omega) fun h' tk hS hk => ?_
    rw [hl, firstMet_ndist] at hS
    refine PyProof.Rows.args_nil ?_
    obtain ⟨o, es, ep, t, ho, hex, hd, _, _, _, hf, hn⟩ := hS
    have I2 : Inv X pins σ H1 { s1 with heap := h', toks := tk } := I1.kept fun b o e => hk b o (Heap.lt_size e) e
    have hb : ndist ns ≤ ns.length := by
      rw [← firstMet_ndist]
      exact nodup_len (nodup_firstMet _ _) fun x hx => by
        obtain ⟨i, hi, e⟩ := (mem_firstMet _ _ x).mp hx
        rw [List.getD_eq_getElem?_getD, List.getElem?_eq_getElem hi] at e
        have e : ns[i] = x := e
        rw [← e]
        exact List.getElem_mem hi
    exact call_len_set ho hex hd hf (by rw [hn]; omega) ⟨.int (ndist ns), H1, I2.tok _, ⟨_, by rw [hn]⟩, q1⟩
end
def eLenSet (f : SemE) : SemE := fun δ S => bnd (f δ S) fun x S => match x with
  | .d (.list xs) => (match lenSetD xs with
    | some n => some (.ok (.d (.int n)), S)
    | none => none)
  | _ => none
section
variable {g : Gb} {W : WX} {ι : Type} {Xf : ι → Cx} {k : Nat}
theorem se_lenSet {a : Expr} {f : SemE} {p p2 q pos : Pos} (F : Fm g W k Xf) (hm : g.mg "len" = none) (hm2 : g.mg "set" = none) (ha : SE g W Xf a f) (hg : ∀ i, Gl (Xf i) "len" := by intro _; rfl) (hg2 : ∀ i, Gl (Xf i) "set" := by intro _; rfl)
    (na : ∀ i, starEach [a] (Xf i).env = (false, eval a (Xf i).env) :: starEach [] (Xf i).env := by intro _; rfl) : SE g W Xf (.Call (.Name "len" p) [.Call (.Name "set" p2) [a] [] q] [] pos) (eLenSet f) := by
  obtain ⟨t, p1, q1⟩ := ha
  refine ⟨tLenSetA g.wd.K t, fun i => F.K i ▸ pe_lenSetA (F.room i) (F.calm i) (hg i) (by rw [F.mg i]; exact hm) (hg2 i) (by rw [F.mg i]; exact hm2) (p1 i) (na i), fun G σ H δ S z S' Q s0 e k1 k2 => ?_⟩
  rcases bnd_some e with ⟨u, S1, ea, e2⟩ | ⟨c, ec, ez⟩
  · refine q1 G σ H δ S _ S1 _ s0 ea (fun x ex v G1 H1 gr1 rv => ?_) (fun c ec => nomatch ec)
    cases ex
    split at e2
    · rename_i xs
      split at e2
      · rename_i n hn
        cases e2
        cases rv with
        | lst fa ha ra =>
          refine ⟨_, n, rfl, ?_, k1 _ rfl _ G1 H1 gr1 (.int _)⟩
          unfold lenSetD at hn
          split at hn
          · rename_i h64
            split at hn
            · rename_i l hl
              cases hn
              obtain ⟨ks, e1, e2, e3⟩ := tupsOf_vs ra hl
              subst e1
              subst e2
              refine .inl ⟨ks, .inl (.inl ha), fun p hp => .inl (.inl (e3 p hp)), ?_, rfl⟩
              rw [← ra.length, List.length_map] at h64
              exact h64
            · split at hn
              · rename_i l hl
                cases hn
                have := intsOf_vs ra hl
                subst this
                refine .inr ⟨l, .inl (.inl ha), ?_, rfl⟩
                rw [← ra.length, List.length_map] at h64
                exact h64
              · cases hn
          · cases hn
      · cases e2
    · cases e2
  · subst ez
    refine q1 G σ H δ S _ S' _ s0 ec (fun xs exs => nomatch exs) (fun c' ec' G2 H2 gr2 => ?_)
    cases ec'
    exact k2 c rfl G2 H2 gr2
end
end DL
set_option maxHeartbeats 1000000
/-! The data layer: a law's end. -/
namespace DL
open PySem L2 PySem.W
def excNm : Nat → Str
  | 0 => "InvalidPlayers" | 1 => "InvalidThree" | 2 => "InvalidPlan" | 3 => "InvalidPlayer" | 4 => "InvalidFour" | 5 => "InvalidNames"
  | 6 => "NoPlan" | 7 => "NoDays" | 8 => "MetAlready" | 9 => "NothingToUndo" | _ => "ParseError"
def gAdr (K : Frag) (x : Str) : Addr := match nsIn K mainGlobals x with
  | some (some (.ref a)) => a
  | _ => 0
theorem gAdr_eq {K : Frag} {x : Str} {C : Addr} (h : nsIn K mainGlobals x = some (some (.ref C))) : gAdr K x = C := by
  unfold gAdr
  rw [h]
def wdOf (K : Frag) (sa : Addr) (ns : List Int) : Wd := ⟨K, fun c => gAdr K (excNm c), gAdr K "Organizer", sa, ns, 0, 0⟩
def DefIn (K : Frag) (x : Str) (st : Stmt) : Prop := ∃ (f : Addr) (oc : Value) (od an : Option Addr) (osl : Array (Option Value)) (kV doc pm cdv ct : Value),
  nsIn K mainGlobals x = some (some (.ref f)) ∧ K.lookup f = some ⟨oc, od, .func (PySem.W.fnOf x x (defArgs st) (defBody st) (defScope st) .none kV doc pm an cdv ct), osl⟩ ∧ PySem.W.codeIn K cdv x = true ∧ PySem.W.keepIn K (.ref f) = true
theorem defIn {K : Frag} {x : Str} {st : Stmt} {f : Addr} {oc : Value} {od an : Option Addr} {osl : Array (Option Value)} {kV doc pm cdv ct : Value} (a : nsIn K mainGlobals x = some (some (.ref f))) (l : K.lookup f = some ⟨oc, od, .func (PySem.W.fnOf x x (defArgs st) (defBody st) (defScope st) .none kV doc pm an cdv ct), osl⟩)
    (c : PySem.W.codeIn K cdv x = true) (k : PySem.W.keepIn K (.ref f) = true) : DefIn K x st := ⟨f, oc, od, an, osl, kV, doc, pm, cdv, ct, a, l, c, k⟩
theorem DefIn.top {K : Frag} {h : Heap} {mg : Str → Option Value} {x : Str} {st : Stmt} (D : DefIn K x st) (X : K.In h) (G : h.Ns mainGlobals mg) : ∃ f fd, Fun K x x st f fd ∧ mg x = some (.ref f) := by
  obtain ⟨f, oc, od, an, osl, kV, doc, pm, cdv, ct, a, l, c, k⟩ := D
  exact ⟨f, _, fun_mk l c k, mg_of X G a⟩
abbrev bmV : List Value := [.type "ValueError", .type "Exception", .type "BaseException", .type "object"]
def ExIn (K : Frag) (c : Nat) : Prop := ∃ C : Addr, nsIn K mainGlobals (excNm c) = some (some (.ref C)) ∧ excIn K C bmV "ValueError.__new__" = true ∧ keepIn K (.ref C) = true ∧ subIn K (.ref C) (.type "BaseException") = some true ∧ typeIn K (.ref C) = some (.type "type")
theorem exIn {K : Frag} {c : Nat} {x : Str} {C : Addr} (hx : excNm c = x) (a : nsIn K mainGlobals x = some (some (.ref C))) (q : excIn K C bmV "ValueError.__new__" = true) (k : keepIn K (.ref C) = true) (s : subIn K (.ref C) (.type "BaseException") = some true) (t : typeIn K (.ref C) = some (.type "type")) : ExIn K c := ⟨C, hx ▸ a, q, k, s, t⟩
theorem ExIn.top {K : Frag} {h : Heap} {mg : Str → Option Value} {c : Nat} {sa : Addr} {ns : List Int} {P : Program} {w : World} {base : Heap} (D : ExIn K c) (X : K.In h) (G : h.Ns mainGlobals mg) : ExcF ⟨wdOf K sa ns, P, w, mg, base⟩ c (excNm c) bmV := by
  obtain ⟨C, a, q, k, s, t⟩ := D
  have e : (wdOf K sa ns).ca c = C := gAdr_eq a
  refine ⟨?_, ?_, ?_, ?_, ?_⟩
  · show mg (excNm c) = some (.ref ((wdOf K sa ns).ca c))
    rw [e]
    exact mg_of X G a
  all_goals (simp only [e]; assumption)
/-- what a law's def promises -/
def spLaw (K : Frag) (n : Nat) : Sp := fun vs H Q _ => ∃ (a : Addr) (ns : List Int), vs = [.ref a] ∧ ns.length ≤ n ∧ Only H ∧ SqL K H a (ns.map V.int) ∧ ∀ H', Q (.bl true) H'
theorem law_fn {P : Program} {w : World} {K : Frag} {mg : Str → Option Value} {base : Heap} {k n : Nat} {f : Addr} {fd : FuncData} {x : Str} {m : List Int → SemF}
    (hF : ∀ (sa : Addr) (ns : List Int), FnOk P w K mg base (L2.CX P w) k f fd [x] (spD (wdOf K sa ns) 1 (m ns)))
    (hm : ∀ ns : List Int, ns.length ≤ n → ∃ S', m ns [.sc] ⟨none, []⟩ = some (.ok (.d (.bool true)), S')) : FnOk P w K mg base (L2.CX P w) k f fd [x] (spLaw K n) := by
  have key : ∀ vs H Q E, spLaw K n vs H Q E → ∃ sa ns, spD (wdOf K sa ns) 1 (m ns) vs H Q E := by
    rintro vs H Q E ⟨a, ns, rfl, hl, hO, hS, hQ⟩
    obtain ⟨S', e⟩ := hm ns hl
    have notup : ∀ b o, H b = some o → ∃ ob xs, o = .frz ob (.lst xs) := fun b o e => by
      rcases hO b with z | ⟨ob, xs, z⟩
      · rw [e] at z; cases z
      · rw [e] at z; cases z; exact ⟨ob, xs, rfl⟩
    refine ⟨a, ns, ⟨fun _ => True, none, []⟩, [.sc], ⟨none, []⟩, _, S', rfl, ?_, .cons rfl .nil, e, fun u eu v G' H' gr r => ?_, fun c z => nomatch z⟩
    · refine ⟨fun _ _ => trivial, fun b m => ?_, fun b h => (nomatch h), fun _ => rfl, rfl, fun k t og h1 => ?_, List.nodup_nil, List.nodup_nil, fun b h => (nomatch h), ?_⟩
      · rcases m with z | ⟨t, ht, _⟩
        · cases z
        · cases ht
      · simp at h1
      · rcases hS with (h | ⟨ob, h⟩) | h
        · obtain ⟨ob, xs, z⟩ := notup _ _ h
          cases z
        · exact .inl ⟨ob, h⟩
        · exact .inr (.inr h)
    · cases eu
      cases r
      exact hQ H'
  refine ⟨fun vs H Q E h => ?_, fun A outer s H args us vs Q E hr he hb hv h => ?_⟩
  · obtain ⟨a, ns, rfl, _⟩ := h
    rfl
  · obtain ⟨sa, ns, h'⟩ := key vs H Q E h
    exact (hF sa ns).run A outer s H args us vs Q E hr he hb hv h'
theorem cx_end {P : Program} {w : World} {H : Hp} {s s' : Shared} {e : Value} (h : L2.CX P w [] H s (fun _ _ _ => False) e s') : False := by
  obtain ⟨_, _, _, _, _, _, _, _, _, _, _, _, z⟩ := h
  exact z
/-- the goal that the head leaves, of a law over the data layer -/
theorem law_end {l : PySem.W.OpenLaw} {k : Nat} {q : Program} {loose : List Str} {XP : (Str → Option Value) → Heap → Prop} {YP : World → Heap → Prop} {d : DefRec} {K : Params → PySem.W.Frag} {x : Str}
    (hn : l.most = some 63) (hdf : d.params.defaults = []) (hr : Room k callerA) (hY : ∀ (w : World) (h : Heap), YP w h → (K w.params).In h)
    (F : ∀ (w : World) (mg : Str → Option Value) (fa : Addr) (h : Heap), (K w.params).In h → h.Ns mainGlobals mg → mg d.name = some (.ref fa) →
      ∃ fd : FuncData, (∀ (s : Shared) (u : Value), BindsTo s fd ⟨[u], []⟩ [(x, u)]) ∧ ∀ base : Heap, (K w.params).In base → base.Ns mainGlobals mg → FnOk l.prog w (K w.params) mg base (L2.CX l.prog w) k fa fd [x] (spLaw (K w.params) 63)) :
    PySem.W.WalkO q loose XP YP l.row.toRowW d [] (fun f vs => PySem.call f vs) :=
  L2.walk_of (CX := fun w => L2.CX l.prog w) (sp := fun w => spLaw (K w.params) 63) hn (by decide) hdf hr hY F (fun w H a ns hl hO hS => ⟨a, ns, rfl, hl, hO, hS, fun _ => rfl⟩) (fun w H s e s' z => cx_end z)
end DL
set_option maxHeartbeats 1000000
/-! The data layer: sorted(list or tuple), by insertion. -/
namespace DL
open PySem L2 PySem.W PySem.SeqAt
/-! ### insertion -/
section
variable {α β : Type}
def ins (le : α → α → Bool) (a : α) : List α → List α
  | [] => [a]
  | b :: l => if le a b = true then a :: b :: l else b :: ins le a l
def isort (le : α → α → Bool) (l : List α) : List α := l.foldr (ins le) []
theorem ins_at {le : α → α → Bool} {a : α} : ∀ {l1 l2 : List α}, (∀ b ∈ l1, (!le a b) = true) → (∀ b ∈ l2, le a b = true) → ins le a (l1 ++ l2) = l1 ++ a :: l2
  | [], [], _, _ => rfl
  | [], b :: l, _, h => by
    show (if le a b = true then a :: b :: l else b :: ins le a l) = a :: b :: l
    rw [if_pos (h b List.mem_cons_self)]
  | b :: l, l2, h1, h2 => by
    have hb := h1 b List.mem_cons_self
    show (if le a b = true then a :: b :: (l ++ l2) else b :: ins le a (l ++ l2)) = b :: (l ++ a :: l2)
    rw [if_neg (by intro z; rw [z] at hb; cases hb), ins_at (fun c hc => h1 c (List.mem_cons_of_mem _ hc)) h2]
theorem isort_merge {le : α → α → Bool} (tr : ∀ a b c, le a b = true → le b c = true → le a c = true) (to : ∀ a b, (le a b || le b a) = true) : ∀ l : List α, l.mergeSort le = isort le l
  | [] => by simp [isort]
  | a :: l => by
    obtain ⟨l1, l2, e1, e2, h1⟩ := List.mergeSort_cons tr to a l
    have pw := List.pairwise_mergeSort tr to (a :: l)
    rw [e1] at pw
    have h2 : ∀ b ∈ l2, le a b = true := fun b hb => (List.pairwise_cons.mp (List.pairwise_append.mp pw).2.1).1 b hb
    show _ = ins le a (isort le l)
    rw [← isort_merge tr to l, e2, e1, ins_at h1 h2]
end
theorem leD_trans (a b c : PyData) (h1 : leD a b = true) (h2 : leD b c = true) : leD a c = true := by
  unfold leD dataLt at *
  rw [Bool.not_eq_true'] at *
  cases h : PyProof.Rows.lexLt PyProof.Rows.itemOrd (keyToks c) (keyToks a) with
  | false => rfl
  | true =>
    rcases PyProof.Rows.lex_negTrans (O := PyProof.Rows.itemOrd) (keyToks c) (keyToks b) (keyToks a) h with z | z
    · rw [z] at h2; cases h2
    · rw [z] at h1; cases h1
theorem leD_total (a b : PyData) : (leD a b || leD b a) = true := by
  unfold leD dataLt
  cases h : PyProof.Rows.lexLt PyProof.Rows.itemOrd (keyToks b) (keyToks a) with
  | false => rfl
  | true =>
    cases h2 : PyProof.Rows.lexLt PyProof.Rows.itemOrd (keyToks a) (keyToks b) with
    | false => rfl
    | true =>
      have := PyProof.Rows.lex_trans (O := PyProof.Rows.itemOrd) _ _ _ h h2
      rw [PyProof.Rows.lex_irrefl] at this
      cases this
def srtD (ds : List PyData) : List PyData := isort leD ds
theorem srt_eq (ds : List PyData) : sortD ds = srtD ds := isort_merge leD_trans leD_total ds
section
open PyProof.Rows PySem.Calls
variable {prog : Program} {w : World} {A : Around} {E : Value → Shared → Prop} {s : Shared}
/-- the items of a list or a tuple taken out -/
theorem take_seq {T : String} (hT : T = "list" ∨ T = "tuple") {l : Addr} {o : Obj} {n : Nat} {vs : List Value} {Q : List Value → Shared → Prop} (ho : s.heap.get? l = some o) (hc : o.cls = .type T) (hd : o.data = .seq vs.toArray n) (hz : vs.length ≤ sizeLine)
    (h : Q vs { s with heap := (s.heap.push (seqObj "list" #[] 0)).update s.heap.objs.size (Obj.mapSeq (· ++ vs.toArray)) }) : wpAny (model prog w) A (collect (.ref l)) Q E s := by
  unfold collect
  refine wpAny_bind (wpAny_runValue (codeAny_builtin entry_proto_collect' ?_)); show wpAny _ _ (do again (.builtin "list.__iadd__" ⟨[← newList [], .ref l], []⟩)) _ _ s
  refine wpAny_bind (wpAny_newList (wpAny_pure ⟨Code.quiet_builtin _ (by decide +kernel), codeAny_builtin entry_list_iadd' ?_⟩)); show wpAny _ _ (Builtin.List.listExtendWith (.ref s.heap.objs.size) (.ref l) (.ref s.heap.objs.size)) _ _ { s with heap := s.heap.push (seqObj "list" #[] 0) }
  unfold Builtin.List.listExtendWith
  have hp := Heap.get?_push_of_some (seqObj "list" #[] 0) ho
  refine wpAny_bind (wpAny_typeOf (T := T) ⟨o, hp, hc⟩ ?_)
  have ht : (Value.type T == Value.type "list" || Value.type T == Value.type "tuple") = true := by rcases hT with z | z <;> (subst z; rfl)
  rw [if_pos (by rw [Bool.or_assoc, ht, Bool.or_true])]
  refine wpAny_bind (listItems_at hp hd (wpAny_bind (listItems_at (xs := #[]) (n := 0) (Heap.get?_push_size _ rfl) rfl ?_)))
  rw [if_neg (by simp)]
  refine wpAny_bind (listUpdate_at (xs := #[]) (n := 0) (Heap.get?_push_size _ rfl) rfl (wpAny_pure ?_) (Nat.zero_le _) (by simp only [Array.size_append, List.size_toArray, List.length_nil, Array.size_empty]; omega))
  show wpAny (model prog w) A (do
      let o ← load s.heap.objs.size
      match o.data with | .seq xs _ => pure xs.toList | _ => unsupported "internal:collect") Q E { s with heap := (s.heap.push (seqObj "list" #[] 0)).update s.heap.objs.size (Obj.mapSeq (· ++ vs.toArray)) }
  refine wpAny_bind (wpAny_load (get?_update_seq (Heap.get?_push_size _ rfl) _) ?_)
  have e0 : ((#[] : Array Value) ++ vs.toArray).toList = vs := by simp
  show wpAny _ _ (pure ((#[] : Array Value) ++ vs.toArray).toList) Q E _
  rw [e0]
  exact wpAny_pure h
theorem sorted_seq {T : String} (hT : T = "list" ∨ T = "tuple") {l : Addr} {o : Obj} {n : Nat} {vs : List Value} {Q : Value → Shared → Prop} (ho : s.heap.get? l = some o) (hc : o.cls = .type T) (hd : o.data = .seq vs.toArray n) (hL : vs.length ≤ sizeLine)
    (body : ∀ E' : Value → Shared → Prop, wpAny (model prog w) A.in1.in1 (Builtin.«list.sort» ⟨[.ref (s.heap.objs.size + 1)], []⟩) (fun f s' => f = .done (.ret .none) ∧ Q (.ref (s.heap.objs.size + 1)) s') E' { s with heap := copyHeap s.heap vs }) :
    wpAny (model prog w) A (call (.builtin "sorted") [.ref l]) Q E s := by
  refine call_function_entry_kw kind_sorted plain_sorted entry_sorted (args_sorted1 _) ?_
  unfold Builtin.«sorted»
  refine wpAny_bind (m := checkCount "sorted" 1 1 _) (wpAny_pure (wpAny_bind (take_seq hT ho hc hd hL (wpAny_bind (wpAny_newList ?_ hL)))))
  have hsz : ((s.heap.push (seqObj "list" #[] 0)).update s.heap.objs.size (Obj.mapSeq (· ++ vs.toArray))).objs.size = s.heap.objs.size + 1 := Heap.size_update .. |>.trans (size_push' ..)
  show wpAny _ _ _ _ _ { s with heap := copyHeap s.heap vs }
  rw [hsz]
  refine wpAny_bind (wpAny_holding (wpAny_call_entry_kw slot_list_sort ⟨_, copyHeap_at s.heap vs, rfl⟩ entry_list_sort ?body (args_list_sort _)))
  case body =>
    show wpAny (model prog w) A.in1.in1 (Builtin.«list.sort» ⟨[.ref (s.heap.objs.size + 1)], []⟩) _ _ _
    exact wpAny_mono (body _) (fun f s' ⟨e, hq⟩ => e ▸ ⟨_, rfl, wpAny_pure ⟨_, rfl, hq⟩⟩) fun _ _ e => e
theorem sorted_seqD {β : Type} {T : String} (hT : T = "list" ∨ T = "tuple") {l : Addr} {o : Obj} {n : Nat} {vs : List Value} {bs : List β} {enc : β → PyData} {R : Value → β → Prop} {Q : Value → Shared → Prop} (ho : s.heap.get? l = some o) (hc : o.cls = .type T) (hd : o.data = .seq vs.toArray n)
    (e : EachIs R vs bs) (er : EachIs (fun v b => ∃ as, Reads s.heap v (enc b) as) vs bs) (hal : AllAlike (bs.map enc)) (hk : Sortable (bs.map enc)) (hL : bs.length ≤ sizeLine) (hu : ∀ b, b ∈ bs → A.units + 2 + (enc b).depth < cLine)
    (h : ∀ out, out.length = bs.length → EachIs R out (bs.mergeSort (dataLe false enc)) → Q (.ref (s.heap.objs.size + 1)) { s with heap := sortedAll s.heap vs (List.toArray out) }) : wpAny (model prog w) A (call (.builtin "sorted") [.ref l]) Q E s := by
  have er' : EachIs (fun v b => ∃ as, Reads (sortingHeap (copyHeap s.heap vs) (s.heap.objs.size + 1) vs) v (enc b) as) vs bs := er.mono fun _ _ ⟨as, r⟩ => ⟨as, Reads.keeps (fun _ _ => sorting_copy_old) r⟩
  have hl : vs.length ≤ sizeLine := by rw [e.length]; exact hL
  refine sorted_seq hT ho hc hd hl fun _ => list_sort_vals (s := { s with heap := copyHeap s.heap vs }) (copyHeap_at s.heap vs) (SortsAt.data (s := { s with heap := sortingHeap (copyHeap s.heap vs) (s.heap.objs.size + 1) vs }) (each_map (R := fun v d => ∃ as, Reads (sortingHeap (copyHeap s.heap vs) (s.heap.objs.size + 1) vs) v d as) enc er') hal hk (bound_map hu)) hl ⟨rfl, ?_⟩
  exact h _ (by rw [sortVals_length false rfl]; exact e.length) (sortVals_data false e er' hal)
end
def rSortT (K : PySem.W.Frag) : List V → Hp → VK → Prop := fun xs H Q => ∃ (a : Addr) (ps : List (V × PyData)), xs = [.ref a] ∧ H a = some (.tup (ps.map (·.1))) ∧ (∀ p ∈ ps, Dp K H p.1 p.2) ∧ sortOk (ps.map (·.2)) = true ∧
  ∀ q, H q = none → Q (.ref q) (upd H q (.lst ((ps.mergeSort fun a b => leD a.2 b.2).map (·.1))))
theorem cr_sortT {k : Nat} {X : Cx} (hr : Room k X.A) : CallR X (.builtin "sorted") (rSortT X.K) := by
  intro pins s σ H vs us Q I rv h
  obtain ⟨a, ps, rfl, ha, hd, hs, q⟩ := h
  obtain ⟨its, r1, ⟨o, ho, hc, n, hdt⟩, hz⟩ := I.tuple (show SqT X.K H a (ps.map (·.1)) from .inl (.inl ha))
  rw [Vals.ref1 rv]
  obtain ⟨h1, h2, h3, h4⟩ := sortOk_alike hs
  rw [List.length_map] at h4
  have e1 := each_of_vals r1
  refine sorted_seqD (enc := fun p : V × PyData => p.2) (.inr rfl) ho hc hdt e1 (each_reads I hd e1) h1 h2 (lim_sz h4) (fun p hp => by have := h3 p.2 (List.mem_map_of_mem hp); have := hr.un; omega) fun out hlen eo => ?_
  obtain ⟨ep, he'⟩ := PyProof.Rows.sortedAll_at s.heap its out.toArray
  have ed : dataLe false (fun p : V × PyData => p.2) = fun a b => leD a.2 b.2 := rfl
  rw [ed] at eo
  have hv := vals_of_each eo
  have hlen2 : ((ps.mergeSort fun a b => leD a.2 b.2).map (·.1)).length ≤ sizeLine := by
    rw [List.length_map, List.length_mergeSort]
    exact lim_sz h4
  exact ⟨.ref _, upd H (s.heap.objs.size + 1) (.lst ((ps.mergeSort fun a b => leD a.2 b.2).map (·.1))), I.laid (t' := s.toks) (fun _ _ => PyProof.Rows.sortedAll_old) (Nat.le_succ _) ⟨hlen2, out, ep, hv, he'⟩, rfl, q _ (I.hok.fresh (Nat.le_succ _))⟩
section
variable {g : Gb} {W : WX} {ι : Type} {Xf : ι → Cx} {k : Nat}
def oSort : List U → Option U
  | [.d (.list xs)] => if sortOk xs = true then some (.d (.list (srtD xs))) else none
  | [.d (.tuple xs)] => if sortOk xs = true then some (.d (.list (srtD xs))) else none
  | _ => none
theorem ok_sort (F : Fm g W k Xf) : CallOkF g Xf (.builtin "sorted") oSort := by
  refine ⟨fun xs H Q => rSortD g.wd.K xs H Q ∨ rSortT g.wd.K xs H Q, fun i => F.K i ▸ CallR.or (cr_sortD (F.room i)) (cr_sortT (F.room i)), fun G H S vs us z Q ok rv e k => ?_⟩
  unfold oSort at e
  split at e
  · split at e
    · rename_i hs
      cases e
      obtain ⟨v, rfl, h⟩ := rpUs1 rv
      cases h with
      | lst f h r =>
        obtain ⟨ps, e1, e2, e3⟩ := rp_pairs r
        subst e1 e2
        refine .inl ⟨_, ps, rfl, h, fun p hp => Rp.dp _ _ _ (e3 p hp), hs, fun q hq => ?_⟩
        have r2 : RpAll G.F H ((ps.mergeSort fun a b => leD a.2 b.2).map (·.1)) (srtD (ps.map (·.2))) := by
          rw [← srt_eq, ← sort_pairs]
          exact rp_of_pairs fun p hp => e3 p ((List.mergeSort_perm _ _).mem_iff.mp hp)
        exact k _ rfl q _ G _ hq (ok.fresh q hq) (Grow.new ok hq) upd_same (new_lst ok hq r2)
    · cases e
  · split at e
    · rename_i hs
      cases e
      obtain ⟨v, rfl, h⟩ := rpUs1 rv
      cases h with
      | tup h r =>
        obtain ⟨ps, e1, e2, e3⟩ := rp_pairs r
        subst e1 e2
        refine .inr ⟨_, ps, rfl, h, fun p hp => Rp.dp _ _ _ (e3 p hp), hs, fun q hq => ?_⟩
        have r2 : RpAll G.F H ((ps.mergeSort fun a b => leD a.2 b.2).map (·.1)) (srtD (ps.map (·.2))) := by
          rw [← srt_eq, ← sort_pairs]
          exact rp_of_pairs fun p hp => e3 p ((List.mergeSort_perm _ _).mem_iff.mp hp)
        exact k _ rfl q _ G _ hq (ok.fresh q hq) (Grow.new ok hq) upd_same (new_lst ok hq r2)
    · cases e
  · cases e
end
end DL
set_option maxHeartbeats 1000000
/-! The data layer: more words. -/
namespace DL
open PySem L2 PySem.W PySem.SeqAt
section
variable {g : Gb} {W : WX} {ι : Type} {Xf : ι → Cx} {k : Nat}
/-! ### list(range(n)) -/
def eLRange (f : SemE) : SemE := fun δ S => bnd (f δ S) fun x S => match x with
  | .d (.int n) => if n.natAbs ≤ 1000 then some (.ok (.d (.list (intsD 0 n.toNat))), S) else none
  | _ => none
/-! ### xs[::-1] -/
def eRev (f : SemE) : SemE := fun δ S => bnd (f δ S) fun x S => match x with
  | .d (.list xs) => some (.ok (.d (.list xs.reverse)), S)
  | _ => none
/-! ### f() -/
def eCall0 (m : SemF) : SemE := fun _ S => m [] S
/-! ### x += e, of ints -/
def sAug (i : Nat) (f : SemE) : SemS := fun δ S => match δ[i]? with
  | some (some (.u (.d (.int a)))) => (match f δ S with
    | some (.ok (.d (.int b)), S') => some (.nx, δ.set i (some (.u (.d (.int (a + b))))), S')
    | some (.error c, S') => some (.ex c, δ, S')
    | _ => none)
  | _ => none
/-! ### x.remove(e), of ints -/
def allI : List PyData → Option (List Int)
  | [] => some []
  | .int i :: r => match allI r with
    | some l => some (i :: l)
    | none => none
  | _ :: _ => none
def sRem (i : Nat) (f : SemE) : SemS := fun δ S => match δ[i]? with
  | some (some (.own xs)) => (match allI xs, f (bor δ) S with
    | some ns, some (.ok (.d (.int k)), S') => if k ∈ ns then some (.nx, δ.set i (some (.own ((ns.erase k).map .int))), S') else none
    | _, _ => none)
  | _ => none
/-! ### min of a list -/
/-! ### xs.index(e), of ints -/
def eIdx (f h : SemE) : SemE := fun δ S => bnd (f δ S) fun x S => match x with
  | .d (.list xs) => bnd (h δ S) fun y S => (match y with
    | .d (.int k) => (match allI xs with
      | some ns => if k ∈ ns then some (.ok (.d (.int (ns.idxOf k))), S) else none
      | none => none)
    | _ => none)
  | _ => none
end
end DL
set_option maxHeartbeats 1000000
/-! The data layer: x.extend(list or tuple). -/
namespace DL
open PySem L2 PySem.W PySem.SeqAt
theorem ext_tup (l : Addr) (items : Array Value) (n : Nat) (b : Addr) (items2 : Array Value) (hl : ¬(!items.isEmpty && Builtin.List.listTooLong (items.size + items2.size)) = true) (h1 : items.size ≤ sizeLine) (h2 : items.size + items2.size ≤ sizeLine + 1) :
    Meets (Builtin.«list.extend» ⟨[.ref l, .ref b], []⟩) (fun _ R s => s.heap.get? l = some { cls := .type "list", dict := none, data := .seq items n, slots := #[] } ∧ PyProof.Rows.IsTup s.heap b items2 ∧ R (.ok (.ret Value.none)) { s with heap := s.heap.update l (Obj.mapSeq fun x => x ++ items2), toks := s.toks }) :=
  .of_wp fun prog w A R s h => by
    obtain ⟨ho, ⟨o, hb, hc, n2, hd⟩, h⟩ := h
    show wpAny _ _ (Builtin.List.listExtendWith (.ref l) (.ref b) .none) _ _ s
    unfold Builtin.List.listExtendWith
    refine wpAny_bind (wpAny_typeOf (T := "tuple") ⟨o, hb, hc⟩ ?_)
    rw [if_pos (by rw [show (Value.type "tuple" == Value.type "tuple") = true from rfl, Bool.or_true])]
    refine wpAny_bind (PyProof.Rows.listItems_at hb hd (wpAny_bind (PyProof.Rows.listItems_at ho rfl ?_)))
    rw [if_neg hl]
    refine wpAny_bind (PyProof.Rows.listUpdate_at ho rfl (wpAny_pure ⟨_, rfl, h⟩) h1 (by rw [Array.size_append]; exact h2))
def rExtT (K : PySem.W.Frag) : V → List V → Hp → VK → Prop := fun x vs H Q => ∃ l b xs zs, x = .ref l ∧ vs = [.ref b] ∧ H l = some (.lst xs) ∧ H b = some (.tup zs) ∧ xs.length + zs.length ≤ sizeLine ∧ Q .non (upd H l (.lst (xs ++ zs)))
theorem mt_extT {X : Cx} : MtM X "list.extend" (rExtT X.K) := by
  intro pins s σ H x vs v us Q I rx rv h
  obtain ⟨l, b, xs, zs, rfl, rfl, hH, hB, hz, q⟩ := h
  cases rx
  obtain ⟨u, rfl, ru⟩ := rv.one
  cases ru
  obtain ⟨z, its, n, r, hl, e⟩ := I.lstM hH
  obtain ⟨its2, r2, e2, hl2⟩ := I.tuple (show SqT X.K H b zs from .inl (.inl hB))
  have l1 := r.length
  have l2 := r2.length
  have hsz : its.toArray.size + its2.toArray.size ≤ sizeLine := by
    rw [List.size_toArray, List.size_toArray]
    omega
  have hlong : ¬ (!its.toArray.isEmpty && Builtin.List.listTooLong (its.toArray.size + its2.toArray.size)) = true := by
    rw [notLongL hsz, Bool.and_false]
    exact Bool.false_ne_true
  refine call_meets F.slot_list_extend ⟨_, e, rfl⟩ F.entry_list_extend (F.args_list_extend_2 _ _) (ext_tup l its.toArray n b its2.toArray hlong (by rw [List.size_toArray]; omega) (by omega)) ⟨e, e2, ?_⟩
  refine ⟨.non, _, I.lset (its' := its ++ its2) hH e (by simp) (r.append r2) ?_, rfl, q⟩
  rw [List.length_append]
  omega
theorem mtM_or {X : Cx} {id : String} {r r' : V → List V → Hp → VK → Prop} (h : MtM X id r) (h' : MtM X id r') : MtM X id (fun x vs H Q => r x vs H Q ∨ r' x vs H Q) := by
  intro pins s σ H x vs v us Q I rx rv q
  rcases q with q | q
  · exact h pins s σ H x vs v us Q I rx rv q
  · exact h' pins s σ H x vs v us Q I rx rv q
section
variable {g : Gb} {W : WX} {ι : Type} {Xf : ι → Cx} {k : Nat}
def sExtA (i : Nat) (f : SemE) : SemS := fun δ S => match δ[i]? with
  | some (some (.own xs)) => (match f δ S with
    | some (.ok (.d (.list ys)), S') => if xs.length + ys.length ≤ LIM then some (.nx, δ.set i (some (.own (xs ++ ys))), S') else none
    | some (.ok (.d (.tuple ys)), S') => if xs.length + ys.length ≤ LIM then some (.nx, δ.set i (some (.own (xs ++ ys))), S') else none
    | some (.error c, S') => some (.ex c, δ, S')
    | _ => none)
  | _ => none
theorem rd_extA {wd : Wd} {t : TE} {f : SemE} {i : Nat} (q1 : RdE wd W t f) : RdS wd W (tDrop (tBM wd.K "list" (fun x vs H Q => rExtend x vs H Q ∨ rExtT wd.K x vs H Q) (tVar i) (tCons t tNil))) (sExtA i f) := fun G0 H0 G σ H δ S fl δ' S' D s e k1 k2 k3 => by
  unfold sExtA at e
  split at e
  · rename_i xs hi
    obtain ⟨a, vs, ha, hal, r, nf, nm, n0⟩ := s.own i xs hi
    refine ⟨.ref a, ha, .inl ⟨rfl, vs, .inl (.inl hal)⟩, ?_⟩
    split at e
    · rename_i ys S1 h1
      split at e
      · rename_i hl
        cases e
        refine evN q1 s h1 (fun u' eu v G' H' s' kp rv => ?_) (fun c z => nomatch z)
        cases eu
        cases rv with
        | lst fb hb rb =>
          obtain ⟨a', vs', ha', hal', r', _⟩ := s'.own i xs hi
          rw [ha] at ha'
          cases ha'
          obtain ⟨s2, kp2⟩ := s'.updOwn (vs' := vs' ++ _) (xs' := xs ++ ys) hi ha hal' (r'.append rb)
          exact .inl ⟨a, _, vs', _, rfl, rfl, hal', hb, lim_sz (by rw [r'.length, rb.length]; exact hl), k1 rfl G' σ _ rfl s2 (kp.trans kp2)⟩
      · cases e
    · rename_i ys S1 h1
      split at e
      · rename_i hl
        cases e
        refine evN q1 s h1 (fun u' eu v G' H' s' kp rv => ?_) (fun c z => nomatch z)
        cases eu
        cases rv with
        | tup hb rb =>
          obtain ⟨a', vs', ha', hal', r', _⟩ := s'.own i xs hi
          rw [ha] at ha'
          cases ha'
          obtain ⟨s2, kp2⟩ := s'.updOwn (vs' := vs' ++ _) (xs' := xs ++ ys) hi ha hal' (r'.append rb)
          exact .inr ⟨a, _, vs', _, rfl, rfl, hal', hb, lim_sz (by rw [r'.length, rb.length]; exact hl), k1 rfl G' σ _ rfl s2 (kp.trans kp2)⟩
      · cases e
    · rename_i c S1 h1
      cases e
      refine evN q1 s h1 (fun u' eu => nomatch eu) (fun c' z G' H' gr => ?_)
      cases z
      exact k3 c rfl σ G' H' rfl gr
    · cases e
  · cases e
theorem ss_extA (i : Nat) {x : Str} {e : Expr} {f : SemE} {p apos cpos pos : Pos} (F : Fm g W k Xf) (he : SE g W Xf e f) (hN : ∀ j, (Xf j).N[i]? = some x := by intro _; rfl)
    (hv : ∀ j, Vis (Xf j).env.scope x := by first | exact fun _ => Or.inl rfl | exact fun _ => Or.inr (Or.inl rfl) | exact fun _ => Or.inr (Or.inr rfl)) (hd : (x == ("__debug__" : Str)) = false := by decide) (hcd : (x == ("__classdict__" : Str)) = false := by decide)
    (hs : ∀ j, starEach [e] (Xf j).env = (false, eval e (Xf j).env) :: starEach [] (Xf j).env := by intro _; rfl) (hline : (apos.endLine == cpos.line) = true := by rfl)
    (hb : ∀ j, attributeBase (.Name x p) "extend" (Xf j).env (eval (.Name x p) (Xf j).env) = eval (.Name x p) (Xf j).env := by intro _; rfl) (hw : ∀ j, swapsWith (.Call (.Attribute (.Name x p) "extend" apos) [e] [] cpos) none pos.line (Xf j).env = pure false := by intro _; rfl) :
    SS g W Xf (.Expr (.Call (.Attribute (.Name x p) "extend" apos) [e] [] cpos) pos) (sExtA i f) := by
  obtain ⟨t, p1, q1⟩ := he
  exact ⟨_, ps_m1 i F PySem.F.slot_list_extend PySem.F.type_list_extend (fun j => F.K j ▸ mtM_or mt_extend mt_extT) p1 hN hv hd hcd hs hline hb hw, rd_extA q1⟩
end
end DL
set_option maxHeartbeats 1000000
/-! The data layer: try .. except PlanError as e: return _law_which(e). -/
namespace DL
open PySem L2 PySem.W PySem.SeqAt
/-- what the written part says of the classes of errors -/
structure ExcAll (wd : Wd) : Prop where
  c : ∀ c, ExcC wd.K (wd.ca c)
  one : ∀ c i, kitOne wd.K (.ref (wd.ca c)) (.ref (wd.ca i)) = some (decide (min c 10 = min i 10))
  ve : ∀ c, kitOne wd.K (.ref (wd.ca c)) (.type "ValueError") = some true
/-- a family of contexts in which an error is in hand: no def is called there -/
structure Fw (g : Gb) (W : WX) (k : Nat) {ι : Type} (Xf : ι → Cx) : Prop where
  K : ∀ i, (Xf i).K = g.wd.K
  mg : ∀ i, (Xf i).mg = g.mg
  un : ∀ i, (Xf i).A.units + 16 * k + 200 < cLine
  nd : ∀ i, (Xf i).N.Nodup
  pin : ∀ i, ∃ oe, (g.wd.xa, oe) ∈ (Xf i).pn ∧ Zc (.ref (g.wd.ca g.wd.xc)) none oe ∧ ∃ vs, oe.data = .fields vs
section
variable {g : Gb} {W : WX} {ι : Type} {Xf : ι → Cx} {k : Nat}
/-! ### isinstance(e, C) of the error in hand -/
theorem cr_isX {X : Cx} {a D : Addr} {oe : Obj} (hp : (a, oe) ∈ X.pn) (C : ExcC X.K D) (z : Zc (.ref D) none oe) (hf : ∃ vs, oe.data = .fields vs) : CallR X (.builtin "isinstance") (rIsE X.K D a) := by
  rintro pins s σ H xs us Q I rv ⟨c, cv, b, rfl, hc, hk, q⟩
  match us, rv with
  | [u, v], .cons r1 (.cons r2 .nil) =>
    obtain rfl : v = cv := hc v r2
    obtain rfl : u = .ref a := r1
    have hget := (I.pin (a, oe) (List.mem_append_left _ hp)).1
    have J : InstAt s.heap a oe D none := by
      obtain ⟨vs, hv⟩ := hf
      cases oe
      cases z.1
      cases z.2
      cases hv
      exact ⟨hget, rfl, rfl, trivial⟩
    refine kia_one (handS_kitx_exc C.hg C.hk C.hs C.hd C.ha C.hn C.ht C.hm) I.kIn J hk (fun z => nomatch z) fun tk => ?_
    exact ⟨.bl b, H, I.kept (t' := tk) fun _ _ z => z, rfl, q⟩
def eIsX (i v : Nat) : SemE := fun δ S => match δ[v]? with
  | some (some (.u (.x c))) => some (.ok (.d (.bool (decide (min c 10 = min i 10)))), S)
  | _ => none
def eIsVE (v : Nat) : SemE := fun δ S => match δ[v]? with
  | some (some (.u (.x c))) => some (.ok (.d (.bool true)), S)
  | _ => none
theorem se_isX (i v : Nat) {x y : Str} {p p1 p2 pos : Pos} (F : Fw g W k Xf) (E : ExcAll g.wd) (hm : g.mg "isinstance" = none) (hx : g.mg y = some (.ref (g.wd.ca i))) (hN : ∀ j, (Xf j).N[v]? = some x := by intro _; rfl)
    (hv : ∀ j, Vis (Xf j).env.scope x := by first | exact fun _ => Or.inl rfl | exact fun _ => Or.inr (Or.inl rfl) | exact fun _ => Or.inr (Or.inr rfl)) (hd : (x == ("__debug__" : Str)) = false := by decide) (hcd : (x == ("__classdict__" : Str)) = false := by decide)
    (hg : ∀ i, Gl (Xf i) "isinstance" := by intro _; rfl) (hg2 : ∀ i, Gl (Xf i) y := by intro _; rfl) (hdb : (y == ("__debug__" : Str)) = false := by decide) :
    SE g W Xf (.Call (.Name "isinstance" p) [.Name x p1, .Name y p2] [] pos) (eIsX i v) := by
  refine ⟨tCB (rIsE g.wd.K (g.wd.ca g.wd.xc) g.wd.xa) (tCons (tVar v) (tCons (tC (.ref (g.wd.ca i))) tNil)), fun j => ?_, fun G σ H δ S z S' Q s0 e k1 k2 => ?_⟩
  · obtain ⟨oe, hp, hz, hf⟩ := F.pin j
    exact pe_callB (F.K j ▸ cr_isX hp (F.K j ▸ E.c _) hz hf) (hg j) (by rw [F.mg j]; exact hm) PyProof.Rows.boot_isinstance (pa_cons (pe_var (hN j) (hv j) hd hcd) (pa_cons (pe_glob (v := .ref (g.wd.ca i)) (hg2 j) (by rw [F.mg j]; exact hx) rfl hdb) pa_nil))
  · unfold eIsX at e
    split at e
    · rename_i c hc
      cases e
      obtain ⟨u, hu, rfl, rfl⟩ := s0.at_ v _ hc
      exact ⟨_, hu, _, _, _, rfl, fun u hu => hu, E.one _ _, k1 _ rfl _ G H (Grow.refl s0.ok) (.bl _)⟩
    · cases e
theorem se_isVE (v : Nat) {x : Str} {p p1 p2 pos : Pos} (F : Fw g W k Xf) (E : ExcAll g.wd) (hm : g.mg "isinstance" = none) (hm2 : g.mg "ValueError" = none) (hN : ∀ j, (Xf j).N[v]? = some x := by intro _; rfl)
    (hv : ∀ j, Vis (Xf j).env.scope x := by first | exact fun _ => Or.inl rfl | exact fun _ => Or.inr (Or.inl rfl) | exact fun _ => Or.inr (Or.inr rfl)) (hd : (x == ("__debug__" : Str)) = false := by decide) (hcd : (x == ("__classdict__" : Str)) = false := by decide)
    (hg : ∀ i, Gl (Xf i) "isinstance" := by intro _; rfl) (hg2 : ∀ i, Gl (Xf i) "ValueError" := by intro _; rfl) (hb : bootBuiltins "ValueError" = some (.type "ValueError") := by decide +kernel) :
    SE g W Xf (.Call (.Name "isinstance" p) [.Name x p1, .Name "ValueError" p2] [] pos) (eIsVE v) := by
  refine ⟨tCB (rIsE g.wd.K (g.wd.ca g.wd.xc) g.wd.xa) (tCons (tVar v) (tCons (tC (.ty "ValueError")) tNil)), fun j => ?_, fun G σ H δ S z S' Q s0 e k1 k2 => ?_⟩
  · obtain ⟨oe, hp, hz, hf⟩ := F.pin j
    exact pe_callB (F.K j ▸ cr_isX hp (F.K j ▸ E.c _) hz hf) (hg j) (by rw [F.mg j]; exact hm) PyProof.Rows.boot_isinstance (pa_cons (pe_var (hN j) (hv j) hd hcd) (pa_cons (pe_bltn (v := .ty "ValueError") (hg2 j) (by rw [F.mg j]; exact hm2) hb rfl) pa_nil))
  · unfold eIsVE at e
    split at e
    · rename_i c hc
      cases e
      obtain ⟨u, hu, rfl, rfl⟩ := s0.at_ v _ hc
      exact ⟨_, hu, _, _, _, rfl, fun u hu => hu, E.ve _, k1 _ rfl _ G H (Grow.refl s0.ok) (.bl _)⟩
    · cases e
/-! ### stores, comparisons there -/
theorem ok_neW (F : Fw g W k Xf) : OpOk g Xf (compareOp .NotEq) (cD neP) := ⟨_, fun i => F.K i ▸ opr_neW (F.un i), rdO_cD _⟩
theorem ss_setW (kd : Kd) (i : Nat) {x : Str} {e : Expr} {f : SemE} {pos pos' : Pos} (F : Fw g W k Xf) (he : SK g W Xf kd e f) (hi : ∀ j, (Xf j).N[i]? = some x := by intro _; rfl) (hx : ∀ j, Loc (Xf j).env.scope x := by first | exact fun _ => Or.inl rfl | exact fun _ => Or.inr rfl)
    (hs : ∀ j, swapsWith e (some (.Name x pos')) pos.line (Xf j).env = pure false := by intro _; rfl) (hf : ∀ j, (Xf j).fn x = true ∨ (Xf j).env.scope.names.lookup x = some .local := by first | exact fun _ => Or.inl rfl | exact fun _ => Or.inr rfl) :
    SS g W Xf (.Assign [.Name x pos'] e pos) (sSet kd i f) := by
  obtain ⟨t, p1, q1⟩ := he
  exact ⟨_, fun j => ps_set (F.nd j) (hi j) (hx j) (p1 j) (hs j) (hf j), rd_set q1⟩
theorem ss_extW (i : Nat) {x : Str} {e : Expr} {f : SemE} {p apos cpos pos : Pos} (F : Fw g W k Xf) (he : SE g W Xf e f) (hN : ∀ j, (Xf j).N[i]? = some x := by intro _; rfl)
    (hv : ∀ j, Vis (Xf j).env.scope x := by first | exact fun _ => Or.inl rfl | exact fun _ => Or.inr (Or.inl rfl) | exact fun _ => Or.inr (Or.inr rfl)) (hd : (x == ("__debug__" : Str)) = false := by decide) (hcd : (x == ("__classdict__" : Str)) = false := by decide)
    (hs : ∀ j, starEach [e] (Xf j).env = (false, eval e (Xf j).env) :: starEach [] (Xf j).env := by intro _; rfl) (hline : (apos.endLine == cpos.line) = true := by rfl)
    (hb : ∀ j, attributeBase (.Name x p) "extend" (Xf j).env (eval (.Name x p) (Xf j).env) = eval (.Name x p) (Xf j).env := by intro _; rfl) (hw : ∀ j, swapsWith (.Call (.Attribute (.Name x p) "extend" apos) [e] [] cpos) none pos.line (Xf j).env = pure false := by intro _; rfl) :
    SS g W Xf (.Expr (.Call (.Attribute (.Name x p) "extend" apos) [e] [] cpos) pos) (sExt i f) := by
  obtain ⟨t, p1, q1⟩ := he
  refine ⟨_, fun j => ps_expr (F.K j ▸ pe_bm PySem.F.plainAttrs_list PySem.F.slot_list_extend PySem.F.type_list_extend mt_extend (pe_var (hN j) (hv j) hd hcd) (pa_cons (p1 j) pa_nil (hs j)) (hb j) (by rw [hs j]; rfl) hline (hs j) rfl) (hw j), rd_ext q1⟩
/-! ### xs.count(e), xs.index(e), over data -/
def rCount (K : Frag) : V → List V → Hp → VK → Prop := fun x xs H Q => ∃ (a : Addr) (vs : List V) (ds : List PyData) (y : V) (d : PyData), x = .ref a ∧ xs = [y] ∧ SqL K H a vs ∧ DpAll K H vs ds ∧ Dp K H y d ∧ PyData.depthAll ds ≤ 100 ∧ Q (.int ((ds.countP fun z => PyData.eqv z d : Nat) : Int)) H
theorem mt_count {X : Cx} (hu : X.A.units + 16 * k + 200 < cLine) : MtR X "list.count" (rCount X.K) := by
  rintro pins s σ H x xs v us Q I rx rxs ⟨a, vs, ds, y, d, rfl, rfl, hs, ha, hy, hd, q⟩
  obtain rfl : v = .ref a := rx
  match us, rxs with
  | [uy], .cons ry .nil =>
    obtain ⟨bs, r1⟩ := Dp.reads I d y uy hy ry
    obtain ⟨its, rv, hl, hz⟩ := I.list hs
    obtain ⟨as, h4⟩ := Dp.readsAll I ds _ its ha rv
    refine count_list_data (vs := its.toArray) (xs := ds) hl.isList (by simpa using h4) r1 (dpAll_plain _ _ ha) (dp_plain _ _ hy) (by have := Nat.min_le_left (PyData.depthAll ds) d.depth; omega) ?_
    exact ⟨.int _, H, I.kept (t' := s.toks + 1) fun _ _ z => z, ⟨_, rfl⟩, q⟩
def countD (xs : List PyData) (d : PyData) : Option PyData := if PyData.depthAll xs ≤ 100 then some (.int ((xs.countP fun z => PyData.eqv z d : Nat) : Int)) else none
def idxD (xs : List PyData) (d : PyData) : Option PyData := if SeqAt.shaped (.list xs) = true ∧ SeqAt.shaped d = true then (match xs.findIdx? fun z => PyData.eqv z d with
  | some j => some (.int (j : Nat))
  | none => none) else none
def eM1 (op : List PyData → PyData → Option PyData) (f h : SemE) : SemE := fun δ S => bnd (f δ S) fun x S => match x with
  | .d (.list xs) => bnd (h δ S) fun y S => (match y with
    | .d d => (match op xs d with
      | some z => some (.ok (.d z), S)
      | none => none)
    | _ => none)
  | _ => none
/-- o.m(e), o a list: how it is read -/
theorem rd_m1 {wd : Wd} {r : V → List V → Hp → VK → Prop} {t u : TE} {f h : SemE} {op : List PyData → PyData → Option PyData} (q1 : RdE wd W t f) (q2 : RdE wd W u h)
    (hr : ∀ (G : Gh) (H : Hp) (S : Sto) (a : Addr) (vs : List V) (xs : List PyData) (y : V) (d z : PyData) (Q : VK), GOk wd G H S → G.F a → H a = some (.lst vs) → RpAll G.F H vs xs → Rp G.F H y d → op xs d = some z → (∀ v, (∀ F H, Rp F H v z) → Q v H) → r (.ref a) [y] H Q) :
    RdE wd W (tBM wd.K "list" r t (tCons u tNil)) (eM1 op f h) := fun G σ H δ S z S' Q s0 e k1 k2 => by
  rcases bnd_some e with ⟨a, S1, ea, e2⟩ | ⟨c, ec, ez⟩
  · refine q1 G σ H δ S _ S1 _ s0 ea (fun x ex v G1 H1 gr1 rv => ?_) (fun c ec => nomatch ec)
    cases ex
    have s1 := s0.grow gr1
    split at e2
    · cases rv with
      | lst fa hal ra =>
        refine ⟨.inl ⟨rfl, _, .inl (.inl hal)⟩, ?_⟩
        rcases bnd_some e2 with ⟨b, S2, eb, e3⟩ | ⟨c, ec, ez⟩
        · refine q2 G1 σ H1 δ S1 _ _ _ s1 eb (fun y ey w G2 H2 gr2 rw' => ?_) (fun c ec => nomatch ec)
          cases ey
          split at e3
          · split at e3
            · rename_i zz hz
              cases e3
              obtain ⟨f2, h2⟩ := gr2.lst s1.ok fa hal
              exact hr G2 H2 _ _ _ _ w _ _ Q gr2.ok f2 h2 (gr2.rpAll s1.ok ra) rw' hz fun v hv => k1 _ rfl v G2 H2 (gr1.trans gr2) (hv _ _)
            · cases e3
          · cases e3
        · subst ez
          refine q2 G1 σ H1 δ S1 _ _ _ s1 ec (fun xs exs => nomatch exs) (fun c' ec' G2 H2 gr2 => ?_)
          cases ec'
          exact k2 c rfl G2 H2 (gr1.trans gr2)
    · cases e2
  · subst ez
    refine q1 G σ H δ S _ S' _ s0 ec (fun xs exs => nomatch exs) (fun c' ec' G2 H2 gr2 => ?_)
    cases ec'
    exact k2 c rfl G2 H2 gr2
theorem se_countU {o e : Expr} {f h : SemE} {apos pos : Pos} (hK : ∀ j, (Xf j).K = g.wd.K) (hu : ∀ j, (Xf j).A.units + 16 * k + 200 < cLine) (ho : SE g W Xf o f) (he : SE g W Xf e h) (hb : ∀ j, attributeBase o "count" (Xf j).env (eval o (Xf j).env) = eval o (Xf j).env) (hline : (apos.endLine == pos.line) = true)
    (hs : ∀ j, starEach [e] (Xf j).env = (false, eval e (Xf j).env) :: starEach [] (Xf j).env) :
    SE g W Xf (.Call (.Attribute o "count" apos) [e] [] pos) (eM1 countD f h) := by
  obtain ⟨t, p1, q1⟩ := ho
  obtain ⟨u, p2, q2⟩ := he
  refine ⟨tBM g.wd.K "list" (rCount g.wd.K) t (tCons u tNil), fun j => hK j ▸ pe_bm PySem.F.plainAttrs_list PySem.F.slot_list_count PySem.F.type_list_count (mt_count (hu j)) (p1 j) (pa_cons (p2 j) pa_nil (hs j)) (hb j) (by rw [hs j]; rfl) hline (hs j) rfl, ?_⟩
  refine rd_m1 (r := rCount g.wd.K) (op := countD) q1 q2 (fun G H S a vs xs y d z Q ok fa ha ra ry ez k => ?_)
  unfold countD at ez
  split at ez
  · rename_i hd
    cases ez
    exact ⟨a, vs, xs, y, d, rfl, rfl, .inl (.inl ha), RpAll.dp _ _ _ ra, Rp.dp _ _ _ ry, hd, k _ fun _ _ => .int _⟩
  · cases ez
theorem se_indexU {o e : Expr} {f h : SemE} {apos pos : Pos} (hK : ∀ j, (Xf j).K = g.wd.K) (hu : ∀ j, (Xf j).A.units + 16 * k + 200 < cLine) (ho : SE g W Xf o f) (he : SE g W Xf e h) (hb : ∀ j, attributeBase o "index" (Xf j).env (eval o (Xf j).env) = eval o (Xf j).env) (hline : (apos.endLine == pos.line) = true)
    (hs : ∀ j, starEach [e] (Xf j).env = (false, eval e (Xf j).env) :: starEach [] (Xf j).env) :
    SE g W Xf (.Call (.Attribute o "index" apos) [e] [] pos) (eM1 idxD f h) := by
  obtain ⟨t, p1, q1⟩ := ho
  obtain ⟨u, p2, q2⟩ := he
  refine ⟨tBM g.wd.K "list" (rIndexD g.wd.K) t (tCons u tNil), fun j => hK j ▸ pe_bm PySem.F.plainAttrs_list PySem.F.slot_list_index PySem.F.type_list_index (mt_indexD (by have := hu j; omega)) (p1 j) (pa_cons (p2 j) pa_nil (hs j)) (hb j) (by rw [hs j]; rfl) hline (hs j) rfl, ?_⟩
  refine rd_m1 (r := rIndexD g.wd.K) (op := idxD) q1 q2 (fun G H S a vs xs y d z Q ok fa ha ra ry ez k => ?_)
  unfold idxD at ez
  split at ez
  · rename_i hsh
    split at ez
    · rename_i jj hj
      cases ez
      obtain ⟨h1, h2, h3⟩ := List.findIdx?_eq_some_iff_getElem.mp hj
      refine ⟨a, y, d, xs, jj, xs[jj], rfl, rfl, .lst (.inl (.inl ha)) (RpAll.dp _ _ _ ra), Rp.dp _ _ _ ry, hsh.1, hsh.2, List.getElem?_eq_getElem h1, h2, fun m z' hm hz => ?_, k _ fun _ _ => .int _⟩
      have h4 := h3 m hm
      rw [List.getElem?_eq_getElem (by omega)] at hz
      cases hz
      simpa using h4
    · cases ez
  · cases ez
theorem se_countW {o e : Expr} {f h : SemE} {apos pos : Pos} (F : Fw g W k Xf) (ho : SE g W Xf o f) (he : SE g W Xf e h) (hb : ∀ j, attributeBase o "count" (Xf j).env (eval o (Xf j).env) = eval o (Xf j).env := by intro _; rfl) (hline : (apos.endLine == pos.line) = true := by rfl)
    (hs : ∀ j, starEach [e] (Xf j).env = (false, eval e (Xf j).env) :: starEach [] (Xf j).env := by intro _; rfl) :
    SE g W Xf (.Call (.Attribute o "count" apos) [e] [] pos) (eM1 countD f h) := se_countU F.K F.un ho he hb hline hs
theorem se_idxW {o e : Expr} {f h : SemE} {apos pos : Pos} (F : Fw g W k Xf) (ho : SE g W Xf o f) (he : SE g W Xf e h) (hb : ∀ j, attributeBase o "index" (Xf j).env (eval o (Xf j).env) = eval o (Xf j).env := by intro _; rfl) (hline : (apos.endLine == pos.line) = true := by rfl)
    (hs : ∀ j, starEach [e] (Xf j).env = (false, eval e (Xf j).env) :: starEach [] (Xf j).env := by intro _; rfl) :
    SE g W Xf (.Call (.Attribute o "index" apos) [e] [] pos) (eM1 idxD f h) := se_indexU F.K F.un ho he hb hline hs
/-! ### _law_which(e), called where the error is handled -/
abbrev wdX (wd : Wd) (a : Addr) (c : Nat) : Wd := { wd with xa := a, xc := c }
abbrev gX (g : Gb) (a : Addr) (c : Nat) : Gb := { g with wd := wdX g.wd a c }
structure Kw (g : Gb) (x : Str) (m : SemF) : Prop where
  ex : ∃ (f : Addr) (fd : FuncData), g.mg x = some (.ref f) ∧ keepIn g.wd.K (.ref f) = true ∧ Binds g.wd.K fd ["e"] [] ∧
    ∀ (A : Around) (outer : List Env) (s : Shared) (H : Hp) (args : Args) (Q : VK) (a : Addr) (oe : Obj) (c : Nat), L2H.RoomH 1 A → L2H.PinOk outer H s (a, oe) → Zc (.ref (g.wd.ca c)) none oe → (∃ vs, oe.data = .fields vs) →
      Env0 g.P g.w g.wd.K g.mg g.base A outer s H → BindsTo s fd args [("e", .ref a)] → spD (wdX g.wd a c) 1 m [.ref a] H Q (fun _ _ _ => False) → codeAny (model g.P g.w) A (.call (.ref f) args) (CR (L2.CX g.P g.w) outer g.P g.w H s Q (fun _ _ _ => False)) s
theorem kw_mk {x : Str} {st : Stmt} {f : Addr} {fd : FuncData} {N : List Str} {body : SemS} (F : Fun g.wd.K x x st f fd) (hm : g.mg x = some (.ref f)) (hS : FnScope N ["e"] (defScope st)) (hbd : Binds g.wd.K fd ["e"] [])
    (hb : ∀ (a : Addr) (c : Nat) (oe : Obj) (cdv : Value) (A : Around) (outer : List Env) (s : Shared) (H : Hp), Fw (gX g a c) (fun _ _ _ _ => False) 0 (fun _ : Unit => L2H.cxH (L2.CX g.P g.w) g.P g.w g.wd.K g.mg g.base N x (defScope st) f cdv A outer s H (fun _ _ _ => False) (a, oe)) →
      SSs (gX g a c) (fun _ _ _ _ => False) (fun _ : Unit => L2H.cxH (L2.CX g.P g.w) g.P g.w g.wd.K g.mg g.base N x (defScope st) f cdv A outer s H (fun _ _ _ => False) (a, oe)) (defBody st) body) :
    Kw g x (fnSem N.length body) := by
  refine ⟨f, fd, hm, F.kp, hbd, fun A outer s H args Q a oe c hr hp hz hf e0 hargs hsp => ?_⟩
  obtain ⟨oc, od, kV, doc, pm, an, cdv, ct, osl, rfl, lk, hcd⟩ := F.ex
  have inn : ∀ b o, g.base.get? b = some o → s.heap.get? b = some o := fun b o z => (e0.bs b o z).1
  have Kin : g.wd.K.In s.heap := e0.mod.kin.keeps inn
  have places : ∀ y ∈ [("e" : Str)].zip [Value.ref a], (defScope st).names.lookup y.1 = some .local ∨ ((defScope st).names.lookup y.1 = some .cell ∧ ((cellsFrom (s.heap.objs.size + 1) (defScope st).names []).lookup y.1).isSome = true) := by
    rintro ⟨y, v⟩ hy
    have := hS.par y (List.of_mem_zip hy).1
    exact this.elim .inl fun z => .inr ⟨z, cellsFrom_some _ _ _ (.inl z)⟩
  refine codeAny_call_function hr.depth (Kin _ _ lk) rfl hS.co hS.gen rfl (codeRec_of Kin hcd) (hargs _ _ _ _ ?_)
  refine wpAny_newFunctionEnv_cells hS.kind places fun env he s1 inC => ?_
  cases he
  refine ⟨(e0.mod.nolimit.keeps inn).keeps inC.toInCall.keep, codeAny_func ?_⟩
  have I := L2H.inv_startH (CX := L2.CX g.P g.w) (E := fun _ _ _ => False) hS hp e0 (vs := [.ref a]) rfl (.cons rfl .nil) inC
  obtain ⟨t, p1, q1⟩ := hb a c oe cdv A outer s H ⟨fun _ => rfl, fun _ => rfl, fun _ => (hr.deeper _).un, fun _ => hS.nd, fun _ => ⟨oe, List.mem_singleton.mpr rfl, hz, hf⟩⟩
  have tq : t { nx := fun _ H' => Q .non H', rt := Q } (L2.start N [.ref a]) H := fn_rd (g := gX g a c) q1 hsp
  refine wpAny_mono ((p1 ()).run [] s1 _ H _ I tq) (fun fl s' hs => ?_) fun _ _ z => z
  match fl, hs with
  | .ret _, ⟨v, _, H', J, rv, q⟩ => exact ⟨v, H', J.os, J.bare, J.base, J.hok, rv, q⟩
  | .next, ⟨_, H', J, q⟩ => exact ⟨.non, H', J.os, J.bare, J.base, J.hok, rfl, q⟩
  | .brk, ⟨_, _, _, q⟩ => exact q.elim
  | .cont, ⟨_, _, _, q⟩ => exact q.elim
end
end DL
set_option maxHeartbeats 1000000
/-! The data layer: the try statement. -/
namespace DL
open PySem L2 PySem.W PySem.SeqAt
section
variable {g : Gb} {W : WX} {ι : Type} {Xf : ι → Cx} {k : Nat}
theorem gok_x {wd : Wd} {G : Gh} {H : Hp} {S : Sto} {a : Addr} {c : Nat} (o : GOk wd G H S) : GOk (wdX wd a c) G H S := ⟨o.fresh, o.mF, o.town, o.townN, o.olen, o.org, o.nd1, o.nd2, o.ndt, o.scr⟩
theorem gok_of {wd : Wd} {G : Gh} {H : Hp} {S : Sto} {a : Addr} {c : Nat} (o : GOk (wdX wd a c) G H S) : GOk wd G H S := ⟨o.fresh, o.mF, o.town, o.townN, o.olen, o.org, o.nd1, o.nd2, o.ndt, o.scr⟩
theorem grow_of {wd : Wd} {G G' : Gh} {H H' : Hp} {S : Sto} {a : Addr} {c : Nat} (r : Grow (wdX wd a c) G H G' H' S) : Grow wd G H G' H' S := ⟨gok_of r.ok, r.sub, r.keep, r.same, r.mem, r.there, r.ta, r.oa⟩
def tWh (wd : Wd) (i : Nat) (m : SemF) (a : Addr) (c : Nat) : TE := fun σ H Q => tVar i σ H fun v H1 => v = .ref a ∧ spD (wdX wd a c) 1 m [.ref a] H1 Q (fun _ _ _ => False)
theorem pe_which {X : Cx} {y n : Str} {m : SemF} {a : Addr} {oe : Obj} {pn : List (Addr × Obj)} {c i : Nat} {p p2 pos : Pos} (hP : X.prog = g.P) (hw : X.w = g.w) (hK : X.K = g.wd.K) (hmg : X.mg = g.mg) (hba : X.base = g.base) (hr : Room k X.A) (hk1 : 1 ≤ k) (D : Kw g y m)
    (hz : Zc (.ref (g.wd.ca c)) none oe) (hf : ∃ vs, oe.data = .fields vs) (hg : Gl X y) (hN : X.N[i]? = some n) (hv : Vis X.env.scope n) (hd : (n == ("__debug__" : Str)) = false) (hcd : (n == ("__classdict__" : Str)) = false) (hdb : (y == ("__debug__" : Str)) = false) :
    PE (X.suite a ((a, oe) :: pn)) (.Call (.Name y p) [.Name n p2] [] pos) (tWh g.wd i m a c) := by
  obtain ⟨f, fd, hm, hk, hb, run⟩ := D.ex
  have pv : PE (X.suite a ((a, oe) :: pn)) (.Name n p2) (tVar i) := pe_var hN hv hd hcd
  have pa : PA (X.suite a ((a, oe) :: pn)) [.Name n p2] (tCons (tVar i) tNil) := pa_cons pv pa_nil
  refine ⟨fun pins s σ H Q I h => ?_⟩
  obtain ⟨v, hσ, rfl, sp⟩ := h
  have h2 : tCons (tVar i) tNil σ H (fun vs H1 => vs = [.ref a] ∧ spD (wdX g.wd a c) 1 m [.ref a] H1 Q (fun _ _ _ => False)) := ⟨_, hσ, rfl, sp⟩
  refine wpAny_Call_Name_kw (ld_glob I hg (by show X.mg y = _; rw [hmg]; exact hm) ?_ hdb)
  refine callWith_K (h₀ := X.base) I.ok.mod.kin (by show keepIn X.K _ = true; rw [hK]; exact hk) (thn (pa.run pos pins s σ H _ I h2) fun us s1 ⟨vs, H1, I1, rv, e1, q1⟩ => ⟨I1.kIn, ?_⟩) rfl rfl
  subst e1
  cases rv with
  | cons ru rr =>
    cases rr
    cases ru
    have P1 := I1.pin (a, oe) (List.mem_append_left _ List.mem_cons_self)
    have pin : L2H.PinOk X.stack H1 s1 (a, oe) := ⟨P1.1, P1.2.1, fun hm' => (List.mem_cons.mp (I1.stkSub a hm')).elim P1.2.2.1 P1.2.2.2.1, P1.2.2.2.2⟩
    have e0 : Env0 g.P g.w g.wd.K g.mg g.base (X.A.mark (some (.ref a))) X.stack s1 H1 := by
      have := I1.env0
      rw [← hP, ← hw, ← hK, ← hmg, ← hba]
      exact this
    have b := hb s1 [.ref a] (by rw [← hK]; exact I1.kIn) rfl
    have room : L2H.RoomH 1 (X.A.mark (some (.ref a))) := by
      have := hr.mono hk1
      exact ⟨this.dp, this.un⟩
    have go := run (X.A.mark (some (.ref a))) X.stack s1 H1 ⟨[.ref a], []⟩ Q a oe c room pin hz hf e0 b q1
    rw [← hP, ← hw] at go
    refine wpAny_call (codeAny_mono go fun r s' hq => ?_)
    cases r with
    | error e =>
      obtain ⟨_, _, _, _, _, _, _, _, _, _, _, _, no⟩ := hq
      exact no.elim
    | ok fl =>
      cases fl with
      | ret u => exact I1.after hq
      | next => exact hq.elim
      | brk => exact hq.elim
      | cont => exact hq.elim
structure TrI (Xf : ι → Cx) (W : WX) where
  i : ι
  pn : List (Addr × Obj)
  xe : Value → Shared → Prop
  tk : Takes ((Xf i).tr pn xe) W
  po : PassesOwn (model (Xf i).prog (Xf i).w) (Xf i).A (Xf i).env xe
abbrev trF (Xf : ι → Cx) (W : WX) : TrI Xf W → Cx := fun q => (Xf q.i).tr q.pn q.xe
theorem fm_tr {W' : WX} (F : Fm g W k Xf) : Fm g W' k (trF Xf W') :=
  ⟨fun q => F.prog q.i, fun q => F.w q.i, fun q => F.K q.i, fun q => F.mg q.i, fun q => F.base q.i, fun q => F.calm q.i, fun q => F.room q.i, fun q => q.tk, fun q => F.nd q.i, fun q => q.po⟩
def sTry (i : Nat) (body : SemS) (m : SemF) : SemS := fun δ S => match body δ S with
  | some (.ex c, δ1, S1) => if i < δ.length then (match m [.x c] S1 with
    | some (.ok (.d x), S2) => some (.rt (.d x), δ1, S2)
    | _ => none) else none
  | r => r
/-- the class PlanError -/
def PlanE (g : Gb) : Prop := ∃ C, g.mg "PlanError" = some (.ref C) ∧ ∀ c, exmOne g.wd.K (.ref (g.wd.ca c)) (.ref C) = some true
theorem ss_try (i : Nat) {y : Str} {m : SemF} {body : List Stmt} {f : SemS} {np p p2 pos2 pos3 pos' pos : Pos} (F : Fm g W k Xf) (D : Kw g y m) (hpe : PlanE g) (hb : ∀ W', Fm g W' k (trF Xf W') → SSs g W' (trF Xf W') body f) (hk1 : 1 ≤ k := by decide)
    (hst : ∀ j, (Xf j).stack = (Xf j).env :: (Xf j).outer := by intro _; rfl) (hfr : ∀ j, (Xf j).env.frame = some (Xf j).env.locals := by intro _; rfl) (hi : ∀ j, (Xf j).N[i]? = some "e" := by intro _; rfl) (hln : ∀ j, (Xf j).env.kindOf "e" = some .local := by intro _; rfl)
    (hgp : ∀ j, Gl (Xf j) "PlanError" := by intro _; rfl) (hg : ∀ j, Gl (Xf j) y := by intro _; rfl) (hdb : (y == ("__debug__" : Str)) = false := by decide) :
    SS g W Xf (.Try body [.ExceptHandler (some (.Name "PlanError" np)) (some "e") [.Return (some (.Call (.Name y p) [.Name "e" p2] [] pos2)) pos3] pos'] [] [] pos) (sTry i f m) := by
  obtain ⟨C, hC, hall⟩ := hpe
  have hbW : ∀ W', ∃ t, (∀ q, PSs (trF Xf W' q) body t) ∧ RdS g.wd W' t f := fun W' => hb W' (fm_tr F)
  refine ⟨fun Ds σ H => (hbW (wAs g.wd.K (.ref C) i (fun a cls d Ds σ H => ∃ c, cls = .ref (g.wd.ca c) ∧ d = none ∧ L2.tSeq (tRet (tWh g.wd i m a c)) tNext Ds σ H) W Ds)).choose Ds σ H, fun j => ?_, fun G0 H0 G σ H δ S fl δ' S' Ds s e k1 k2 k3 => ?_⟩
  · refine F.K j ▸ ps_try_as (tb := fun W' => (hbW W').choose) (hst j) (hfr j) (F.nd j) (hi j) (hln j) ⟨hgp j, by decide, .inl (by rw [F.mg j]; exact hC)⟩ (F.takes j) (fun W' pn xe tk po => ?_) (fun a oe cls d pn hz hf => ?_)
    · exact (hbW W').choose_spec.1 ⟨j, pn, xe, tk, po⟩
    · refine ⟨fun pins s σ H Ds I hh => ?_⟩
      obtain ⟨c, rfl, rfl, h⟩ := hh
      have pe := pe_which (g := g) (a := a) (oe := oe) (pn := pn) (p := p) (p2 := p2) (pos := pos2) (F.prog j) (F.w j) (F.K j) (F.mg j) (F.base j) (F.room j) hk1 D hz hf (hg j) (hi j) (.inl (hln j)) (by decide) (by decide) hdb
      exact (pss_cons (ps_ret pe) pss_nil).run pins s σ H Ds I h
  · have q := (hbW (wAs g.wd.K (.ref C) i (fun a cls d Ds σ H => ∃ c, cls = .ref (g.wd.ca c) ∧ d = none ∧ L2.tSeq (tRet (tWh g.wd i m a c)) tNext Ds σ H) W Ds)).choose_spec.2
    unfold sTry at e
    split at e
    · rename_i c δ1 S1 hbd
      split at e
      · rename_i hlt
        split at e
        · rename_i x S2 hm2
          cases e
          refine q G0 H0 G σ H δ S _ _ S1 Ds s hbd (fun z => nomatch z) (fun u z => nomatch z) (fun c' z σ' G' H' hl gr => ?_)
          cases z
          refine ⟨true, hall c, fun _ a na => ⟨c, rfl, rfl, ?_⟩, fun z => nomatch z⟩
          refine ⟨.ref a, ?_, rfl, G', [.x c], S1, _, _, rfl, gok_x gr.ok, .cons ⟨rfl, rfl⟩ .nil, hm2, fun u eu v G2 H2 gr2 r2 => ?_, fun c z => nomatch z⟩
          · exact List.getElem?_set_self (by have := s.len; omega)
          · cases eu
            exact k2 _ rfl v G2 H2 (gr.trans (grow_of gr2)) r2
        · cases e
      · cases e
    · rename_i hne
      refine q G0 H0 G σ H δ S fl δ' S' Ds s e k1 k2 (fun c z σ' G' H' hl gr => ?_)
      subst z
      exact absurd e (hne c δ' S')
end
end DL
set_option maxHeartbeats 1000000
/-! The data layer: what the written part must say of the classes of errors. -/
namespace DL
open PySem L2 PySem.W PySem.SeqAt
theorem exall_x {wd : Wd} {a : Addr} {c : Nat} (E : ExcAll wd) : ExcAll (wdX wd a c) := ⟨E.c, E.one, E.ve⟩
def exCB (K : Frag) (D : Addr) : Bool :=
  (findIn K (.ref D) "__getattribute__" == some (some (.builtin "BaseException.__getattribute__"))) && ((findIn K (.ref D) "__getattr__" == some none) && ((subIn K (.ref D) (.type "BaseException") == some true) && (hasDictIn K D && ((findIn K (.ref D) "__class__" == some (some (.builtin "object.__class__"))) &&
  ((specialIn K (.builtin "object.__class__") "__get__" == some (some (.builtin "getset_descriptor.__get__"))) && ((takesIn K (.builtin "object.__class__") == some true) && (mroIn K D (.type "object") == some true)))))))
theorem exC_of {K : Frag} {D : Addr} (h : exCB K D = true) : ExcC K D := by
  unfold exCB at h
  simp only [Bool.and_eq_true, beq_iff_eq] at h
  obtain ⟨h1, h2, h3, h4, h5, h6, h7, h8⟩ := h
  exact ⟨h1, h2, h3, h4, h5, h6, h7, h8⟩
def exAllB (K : Frag) : Bool := (List.range 11).all fun c => exCB K (gAdr K (excNm c)) && ((kitOne K (.ref (gAdr K (excNm c))) (.type "ValueError") == some true) && (List.range 11).all fun i => kitOne K (.ref (gAdr K (excNm c))) (.ref (gAdr K (excNm i))) == some (Nat.beq c i))
theorem excNm_min (c : Nat) : excNm c = excNm (min c 10) := by
  by_cases h : c ≤ 10
  · rw [Nat.min_eq_left h]
  · rw [Nat.min_eq_right (by omega)]
    match c, h with
    | 0, h => omega
    | 1, h => omega
    | 2, h => omega
    | 3, h => omega
    | 4, h => omega
    | 5, h => omega
    | 6, h => omega
    | 7, h => omega
    | 8, h => omega
    | 9, h => omega
    | n + 10, h => rfl
theorem exAll_of {K : Frag} {sa : Addr} {ns : List Int} (h : exAllB K = true) : ExcAll (wdOf K sa ns) := by
  have key : ∀ c, exCB K (gAdr K (excNm c)) = true ∧ kitOne K (.ref (gAdr K (excNm c))) (.type "ValueError") = some true ∧ ∀ i, kitOne K (.ref (gAdr K (excNm c))) (.ref (gAdr K (excNm i))) = some (decide (min c 10 = min i 10)) := fun c => by
    have := List.all_eq_true.mp h (min c 10) (List.mem_range.mpr (by omega))
    rw [Bool.and_eq_true, Bool.and_eq_true, beq_iff_eq, ← excNm_min] at this
    refine ⟨this.1, this.2.1, fun i => ?_⟩
    have h2 := List.all_eq_true.mp this.2.2 (min i 10) (List.mem_range.mpr (by omega))
    rw [beq_iff_eq, ← excNm_min] at h2
    rw [h2]
    congr 1
    by_cases e : min c 10 = min i 10
    · rw [e, decide_eq_true rfl]
      exact Nat.beq_refl _
    · rw [decide_eq_false e]
      cases hb : Nat.beq (min c 10) (min i 10) with
      | false => rfl
      | true => exact absurd (Nat.eq_of_beq_eq_true hb) e
  exact ⟨fun c => exC_of (key c).1, fun c i => (key c).2.2 i, fun c => (key c).2.1⟩
def plB (K : Frag) (C : Addr) : Bool := (List.range 11).all fun c => exmOne K (.ref (gAdr K (excNm c))) (.ref C) == some true
def PlIn (K : Frag) : Prop := ∃ C : Addr, nsIn K mainGlobals "PlanError" = some (some (.ref C)) ∧ plB K C = true
theorem plIn {K : Frag} {C : Addr} (a : nsIn K mainGlobals "PlanError" = some (some (.ref C))) (b : plB K C = true) : PlIn K := ⟨C, a, b⟩
theorem PlIn.top {K : Frag} {h : Heap} {mg : Str → Option Value} {sa : Addr} {ns : List Int} {P : Program} {w : World} {base : Heap} (D : PlIn K) (X : K.In h) (G : h.Ns mainGlobals mg) : PlanE ⟨wdOf K sa ns, P, w, mg, base⟩ := by
  obtain ⟨C, a, b⟩ := D
  refine ⟨C, mg_of X G a, fun c => ?_⟩
  have := List.all_eq_true.mp b (min c 10) (List.mem_range.mpr (by omega))
  rw [beq_iff_eq, ← excNm_min] at this
  exact this
end DL
set_option maxHeartbeats 1000000
/-! The data layer: [f, g][i](..). -/
namespace DL
open PySem L2 PySem.W PySem.SeqAt
section
variable {g : Gb} {W : WX} {ι : Type} {Xf : ι → Cx} {k : Nat}
theorem arm_sub (a b : Expr) (sp : Pos) (args : List Expr) (kw : List Keyword) (pos : Pos) (env : Env) : eval (.Call (.Subscript a b sp) args kw pos) env = (do
    callWith pos (← eval (.Subscript a b sp) env) [] (backTo pos (starEach args env)) (backToKw pos (keywordEach kw env))) := rfl
/-- a def at f, by what it promises -/
def HeldX (g : Gb) (k : Nat) (f : Addr) (sp : Sp) : Prop := ∃ (fd : FuncData) (ps : List Str), FnOk g.P g.w g.wd.K g.mg g.base (L2.CX g.P g.w) k f fd ps sp ∧ keepIn g.wd.K (.ref f) = true ∧ Binds g.wd.K fd ps []
def tCallF (g : Gb) (k : Nat) (W : WX) (tf : TE) (t : TA) : TE := fun σ H Q => tf σ H fun v H1 => ∃ f sp, v = .ref f ∧ HeldX g k f sp ∧ t σ H1 fun vs H2 => sp vs H2 Q (WE W σ)
theorem pe_callF {X : Cx} {a b e : Expr} {es : List Expr} {sp pos : Pos} {tf : TE} {t : TA} (hP : X.prog = g.P) (hw : X.w = g.w) (hK : X.K = g.wd.K) (hmg : X.mg = g.mg) (hba : X.base = g.base) (hr : Room k X.A) (tk : Takes X W) (hf : PE X (.Subscript a b sp) tf) (ha : PA X (e :: es) t)
    (he : starEach (e :: es) X.env = (false, eval e X.env) :: starEach es X.env) (hpl : (backTo pos (starEach es X.env)).any (·.1) = false) : PE X (.Call (.Subscript a b sp) (e :: es) [] pos) (tCallF g k W tf t) := by
  refine ⟨fun pins s σ H Q I h => ?_⟩
  rw [arm_sub]
  refine wpAny_bind (thn (hf.run pins s σ H _ I h) fun u s1 ⟨v, H1, I1, r1, f, spc, e1, hh, q1⟩ => ?_)
  subst e1
  cases r1
  obtain ⟨fd, ps, F, hk, hb⟩ := hh
  refine callWith_K (h₀ := X.base) I.ok.mod.kin (by rw [hK]; exact hk) (thn (ha.run pos pins s1 σ H1 _ I1 q1) fun us s2 ⟨vs, H2, I2, r2, q2⟩ => ⟨I2.kIn, ?_⟩) he hpl
  have F' : FnOk X.prog X.w X.K X.mg X.base (L2.CX X.prog X.w) k f fd ps spc := by
    rw [hP, hw, hK, hmg, hba]
    exact F
  exact run_fnS (E := WE W) F' hr (by rw [hK]; exact hb) (passAt tk σ) I2 r2 q2
def tRefs : List Addr → TA
  | [] => tNil
  | f :: r => tCons (tC (.ref f)) (tRefs r)
/-- names of defs with np parameters -/
def SFk (g : Gb) (Xf : ι → Cx) (k np : Nat) (es : List Expr) (ms : List SemF) : Prop := ∃ fs : List Addr, (∀ i, PA (Xf i) es (tRefs fs)) ∧ Paired (fun f m => HeldX g k f (spD g.wd np m)) fs ms
theorem fks_nil {np : Nat} : SFk g Xf k np [] [] := ⟨[], fun _ => pa_nil, .nil⟩
theorem fks_cons {j np : Nat} {x : Str} {m : SemF} {es : List Expr} {ms : List SemF} {p : Pos} (F : Fm g W k Xf) (D : Fk g j x np m) (r : SFk g Xf k np es ms) (hj : j ≤ k := by decide) (hg : ∀ i, Gl (Xf i) x := by intro _; rfl) (hdb : (x == ("__debug__" : Str)) = false := by decide)
    (hs : ∀ i, starEach (.Name x p :: es) (Xf i).env = (false, eval (.Name x p) (Xf i).env) :: starEach es (Xf i).env := by intro _; rfl) : SFk g Xf k np (.Name x p :: es) (m :: ms) := by
  obtain ⟨f, fd, ps, hl, FO, hm, hk, hb⟩ := D.ex
  obtain ⟨fs, h1, h2⟩ := r
  exact ⟨f :: fs, fun i => pa_cons (pe_glob (v := .ref f) (hg i) (by rw [F.mg i]; exact hm) rfl hdb) (h1 i) (hs i), .cons ⟨fd, ps, FO.mono hj, hk, hb⟩ h2⟩
theorem rd_refs {σ : L2.St} : ∀ {fs : List Addr} {H : Hp} {Q : List V → Hp → Prop}, Q (fs.map V.ref) H → tRefs fs σ H Q
  | [], _, _, h => h
  | f :: fs, _, _, h => rd_refs (fs := fs) (Q := fun vs H1 => _) h
theorem paired_len {α β : Type} {R : α → β → Prop} : ∀ {xs : List α} {ys : List β}, Paired R xs ys → xs.length = ys.length
  | _, _, .nil => rfl
  | _, _, .cons _ t => by rw [List.length_cons, List.length_cons, paired_len t]
theorem paired_get {α β : Type} {R : α → β → Prop} : ∀ {xs : List α} {ys : List β} {i : Nat} {y : β}, Paired R xs ys → ys[i]? = some y → ∃ x, xs[i]? = some x ∧ R x y
  | _, _, _, _, .nil, e => by simp at e
  | _, _, 0, _, .cons h _, e => by
    simp at e
    subst e
    exact ⟨_, rfl, h⟩
  | _, _, i + 1, _, .cons _ t, e => by
    obtain ⟨x, e1, r⟩ := paired_get (i := i) t (by simpa using e)
    exact ⟨x, by simpa using e1, r⟩
theorem atI_pair {α β : Type} {R : α → β → Prop} {xs : List α} {ys : List β} {i : Int} {y : β} (h : Paired R xs ys) (e : atI ys i = some y) : ∃ x, atI xs i = some x ∧ R x y := by
  unfold atI at e ⊢
  rw [paired_len h]
  cases hj : ixN ys.length i with
  | none =>
    rw [hj] at e
    cases e
  | some j =>
    rw [hj] at e
    exact paired_get h e
theorem atI_mapA {α β : Type} {f : α → β} {xs : List α} {i : Int} {x : α} (e : atI xs i = some x) : atI (xs.map f) i = some (f x) := by
  unfold atI at e ⊢
  rw [List.length_map]
  cases hj : ixN xs.length i with
  | none =>
    rw [hj] at e
    cases e
  | some j =>
    rw [hj] at e
    have e : xs[j]? = some x := e
    show (xs.map f)[j]? = some (f x)
    rw [List.getElem?_map, e]
    rfl
def eCallL (ms : List SemF) (np : Nat) (fi : SemE) (a : SemA) : SemE := fun δ S => bnd (fi δ S) fun x S => match x with
  | .d (.int i) => (match atI ms i with
    | some m => bnd (a δ S) fun us S => if us.length = np then m us S else none
    | none => none)
  | _ => none
theorem se_callL {np : Nat} {ms : List SemF} {fes : List Expr} {ie e : Expr} {es : List Expr} {fi : SemE} {a : SemA} {lp sp pos : Pos} (F : Fm g W k Xf) (hfs : SFk g Xf k np fes ms) (hi : SE g W Xf ie fi) (ha : SA g W Xf (e :: es) a) (hms : ms.length ≤ 1000 := by decide) (hpx : PlainIx ie := by exact fun _ _ => rfl)
    (he : ∀ i, starEach (e :: es) (Xf i).env = (false, eval e (Xf i).env) :: starEach es (Xf i).env := by intro _; rfl) (hpl : ∀ i, (backTo pos (starEach es (Xf i).env)).any (·.1) = false := by intro _; rfl) :
    SE g W Xf (.Call (.Subscript (.List fes lp) ie sp) (e :: es) [] pos) (eCallL ms np fi a) := by
  obtain ⟨fs, f1, f2⟩ := hfs
  obtain ⟨ti, i1, i2⟩ := hi
  obtain ⟨t, p1, q1⟩ := ha
  refine ⟨tCallF g k W (tOp (rIx g.wd.K) (tLst (tRefs fs)) ti) t, fun j => ?_, fun G σ H δ S z S' Q s0 e k1 k2 => ?_⟩
  · exact pe_callF (F.prog j) (F.w j) (F.K j) (F.mg j) (F.base j) (F.room j) (F.takes j) (pe_ix (F.K j ▸ ix_seq) (pe_lst (f1 j)) (i1 j) hpx) (p1 j) (he j) (hpl j)
  · have hlen := paired_len f2
    refine rd_refs ⟨sz1000 (by rw [List.length_map, hlen]; exact hms), fun p hp => ?_⟩
    have gr0 := Grow.new (o := .lst (fs.map V.ref)) s0.ok hp
    have s1 := s0.grow gr0
    rcases bnd_some e with ⟨x, S1, ei, e2⟩ | ⟨c, ec, ez⟩
    · refine i2 G σ _ δ S _ S1 _ s1 ei (fun u eu v G1 H1 gr1 rv => ?_) (fun c ec => nomatch ec)
      cases eu
      have s2 := s1.grow gr1
      split at e2
      · rename_i i
        split at e2
        · rename_i m hm
          cases rv
          obtain ⟨f, ef, hh⟩ := atI_pair f2 hm
          have hl1 := gr1.same p _ upd_same (fun mm => s0.ok.mF p mm (s0.ok.fresh p hp))
          refine .inl ⟨p, _, i, .ref f, rfl, rfl, .inl (.inl hl1), atI_mapA ef, f, _, rfl, hh, ?_⟩
          rcases bnd_some e2 with ⟨us, S2, ea, e3⟩ | ⟨c, ec, ez⟩
          · refine q1 G1 σ H1 δ S1 _ S2 _ s2 ea (fun x ex vs G2 H2 gr2 rv => ?_) (fun c ec => nomatch ec)
            cases ex
            split at e3
            · rename_i hl
              exact ⟨G2, us, S2, z, S', hl, gr2.ok, rv, e3, fun u eu v G3 H3 gr3 r3 => k1 u eu v G3 H3 (((gr0.trans gr1).trans gr2).trans gr3) r3, fun c ec G3 H3 gr3 => k2 c ec G3 H3 (((gr0.trans gr1).trans gr2).trans gr3)⟩
            · cases e3
          · subst ez
            refine q1 G1 σ H1 δ S1 _ S' _ s2 ec (fun xs exs => nomatch exs) (fun c' ec' G2 H2 gr2 => ?_)
            cases ec'
            exact k2 c rfl G2 H2 ((gr0.trans gr1).trans gr2)
        · cases e2
      · cases e2
    · subst ez
      refine i2 G σ _ δ S _ S' _ s1 ec (fun xs exs => nomatch exs) (fun c' ec' G2 H2 gr2 => ?_)
      cases ec'
      exact k2 c rfl G2 H2 (gr0.trans gr2)
end
end DL
set_option maxHeartbeats 1000000
/-! The data layer: x = f(..), the arguments made of own lists. -/
namespace DL
open PySem L2 PySem.W PySem.SeqAt
section
variable {g : Gb} {W : WX} {ι : Type} {Xf : ι → Cx} {k : Nat}
def sSetC (i : Nat) (m : SemF) (np : Nat) (a : SemA) : SemS := fun δ S => match a (bor δ) S with
  | some (.ok us, S1) => if us.length = np ∧ us.all noLstU = true then (match m us S1 with
    | some (.ok u, S2) => some (.nx, δ.set i (some (.u u)), S2)
    | some (.error c, S2) => some (.ex c, δ, S2)
    | none => none) else none
  | some (.error c, S1) => some (.ex c, δ, S1)
  | none => none
theorem rpUs_flat {wd : Wd} {Gb : Gh} {H : Hp} {σ : L2.St} {δ : En} : ∀ {vs : List V} {us : List U}, us.all noLstU = true → RpUs wd Gb H vs us → RpUs wd (Gb.unbor σ δ) H vs us
  | _, _, _, .nil => .nil
  | _, u :: us, h, .cons r t => by
    rw [List.all_cons, Bool.and_eq_true] at h
    exact .cons (rpU_flat h.1 r) (rpUs_flat h.2 t)
theorem ss_setC (i : Nat) {j : Nat} {x y : Str} {np : Nat} {m : SemF} {e : Expr} {es : List Expr} {a : SemA} {p cpos pos pos' : Pos} (F : Fm g W k Xf) (D : Fk g j y np m) (ha : SA g W Xf (e :: es) a) (hj : j ≤ k := by decide) (hg : ∀ i, Gl (Xf i) y := by intro _; rfl) (hdb : (y == ("__debug__" : Str)) = false := by decide)
    (he : ∀ i, starEach (e :: es) (Xf i).env = (false, eval e (Xf i).env) :: starEach es (Xf i).env := by intro _; rfl) (hpl : ∀ i, (backTo cpos (starEach es (Xf i).env)).any (·.1) = false := by intro _; rfl)
    (hi : ∀ j, (Xf j).N[i]? = some x := by intro _; rfl) (hx : ∀ j, Loc (Xf j).env.scope x := by first | exact fun _ => Or.inl rfl | exact fun _ => Or.inr rfl)
    (hs : ∀ j, swapsWith (.Call (.Name y p) (e :: es) [] cpos) (some (.Name x pos')) pos.line (Xf j).env = pure false := by intro _; rfl) (hf : ∀ j, (Xf j).fn x = true ∨ (Xf j).env.scope.names.lookup x = some .local := by first | exact fun _ => Or.inl rfl | exact fun _ => Or.inr rfl) :
    SS g W Xf (.Assign [.Name x pos'] (.Call (.Name y p) (e :: es) [] cpos) pos) (sSetC i m np a) := by
  obtain ⟨f, fd, ps, hl, FO, hm, hk, hb⟩ := D.ex
  obtain ⟨t, p1, q1⟩ := ha
  refine ⟨tAsg (tCallS (spD g.wd np m) (WE W) t) (gName i), set_ok i F (fun i => ?_) hi hx hs hf, fun G0 H0 G σ H δ S fl δ' S' D s e k1 k2 k3 => ?_⟩
  · have FO' : FnOk (Xf i).prog (Xf i).w (Xf i).K (Xf i).mg (Xf i).base (L2.CX (Xf i).prog (Xf i).w) j f fd ps (spD g.wd np m) := by
      rw [F.prog i, F.w i, F.K i, F.mg i, F.base i]
      exact FO
    exact pe_callS FO' ((F.room i).mono hj) (hg i) (by rw [F.mg i]; exact hm) (by rw [F.K i]; exact hk) (by rw [F.K i]; exact hb) (fun σ => passAt (F.takes i) σ) (p1 i) hdb (he i) (hpl i)
  · unfold sSetC at e
    split at e
    · rename_i us S1 h1
      split at e
      · rename_i hc
        refine q1 (G.bor σ δ) σ H (bor δ) S _ S1 _ s.bor h1 (fun us' eu vs Gb H' gr rvs => ?_) (fun c z => nomatch z)
        cases eu
        obtain ⟨s', kp, g0⟩ := s.unbor gr
        split at e
        · rename_i u S2 h2
          cases e
          refine ⟨Gb.unbor σ δ, us, S1, _, _, hc.1, s'.ok, rpUs_flat hc.2 rvs, h2, fun u' eu v G2 H2 gr2 r2 => ?_, fun c z => nomatch z⟩
          cases eu
          exact k1 rfl G2 _ H2 (by simp) ((s'.grow gr2).setU r2) (kp.trans (gr2.kp s'.ok))
        · rename_i c S2 h2
          cases e
          refine ⟨Gb.unbor σ δ, us, S1, _, _, hc.1, s'.ok, rpUs_flat hc.2 rvs, h2, (fun u' eu => nomatch eu), fun c' z G2 H2 gr2 => ?_⟩
          cases z
          exact k3 c rfl σ G2 H2 rfl (s'.fr.trans gr2)
        · cases e
      · cases e
    · rename_i c S1 h1
      cases e
      refine q1 (G.bor σ δ) σ H (bor δ) S _ _ _ s.bor h1 (fun us' eu => nomatch eu) (fun c' z Gb H' gr => ?_)
      cases z
      obtain ⟨s', kp, g0⟩ := s.unbor gr
      exact k3 c rfl σ Gb H' rfl g0
    · cases e
end
end DL
/-! The meanings of the program's defs. Printed by gen.py. -/
namespace PM
open PySem DL
def m_is_integer : SemF := fnSem 3
  (sSeq (sRet (eAnd (eIsT .int (eVar 0)) (eAnd (eNot (eIsT .bool (eVar 0))) (eChain (cD leP) (cD leP) (eVar 1) (eVar 0) (eVar 2)))))
  sNil)
def m_check_players : SemF := fnSem 1
  (sSeq (sIf (tNotS (tOf (eCall m_is_integer 3 (aCons (eVar 0) (aCons (eC (.int 3)) (aCons (eC (.int 9)) aNil)))))) (sSeq (sRaise 0)
  sNil) sNil)
  sNil)
def m_fits : SemF := fnSem 3
  (sSeq (sIf (tOrS (tNotS (tOf (eIsT .tuple (eVar 1)))) (tOrS (tOf (eOp (cD neP) (eBc oLen (aCons (eVar 1) aNil)) (eC (.int 3)))) (tNotS (tOf (eBc oAll (aCons (eLc (itSeq (eVar 1)) [2] (.one 2) tTrue (eCall m_is_integer 3 (aCons (eVar 2) (aCons (eC (.int 0)) (aCons (eOp oSub (eVar 0) (eC (.int 1))) aNil))))) aNil)))))) (sSeq (sRet (eC (.bool false)))
  sNil) sNil)
  (sSeq (sRet (eChain (cD ltP) (cD ltP) (eOp oIx (eVar 1) (eC (.int 0))) (eOp oIx (eVar 1) (eC (.int 1))) (eOp oIx (eVar 1) (eC (.int 2)))))
  sNil))
def m_pairs_of : SemF := fnSem 1
  (sSeq (sRet (eLst (aCons (eSl (eVar 0) oNo (oSome (eC (.int 2)))) (aCons (eTup (aCons (eOp oIx (eVar 0) (eC (.int 0))) (aCons (eOp oIx (eVar 0) (eC (.int 2))) aNil))) (aCons (eSl (eVar 0) (oSome (eC (.int 1))) oNo) aNil)))))
  sNil)
def m_pairs_met : SemF := fnSem 3
  (sSeq (sSet .own 1 (eLst aNil))
  (sSeq (sFor (itSeq (eVar 0)) (.one 2) (sSeq (sExtA 1 (eCall m_pairs_of 1 (aCons (eVar 2) aNil)))
  sNil))
  (sSeq (sRet (eVar 1))
  sNil)))
def m_stands : SemF := fnSem 6
  (sSeq (sIf (tOrS (tNotS (tOf (eIsT .tuple (eVar 1)))) (tNotS (tOf (eBc oAll (aCons (eLc (itSeq (eVar 1)) [2] (.one 2) tTrue (eCall m_fits 2 (aCons (eVar 0) (aCons (eVar 2) aNil)))) aNil))))) (sSeq (sRet (eC (.bool false)))
  sNil) sNil)
  (sSeq (sSet .dat 3 (eCall m_pairs_met 1 (aCons (eVar 1) aNil)))
  (sSeq (sRet (eAnd (eOp (cD eqP) (eLenSet (eVar 3)) (eBc oLen (aCons (eVar 3) aNil))) (eBc oAll (aCons (eLc (itZip (aCons (eVar 1) (aCons (eSl (eVar 1) (oSome (eC (.int 1))) oNo) aNil))) [4, 5] (.tup [4, 5]) tTrue (eOp (cD ltP) (eVar 4) (eVar 5))) aNil))))
  sNil)))
def m_is_plan : SemF := fnSem 2
  (sSeq (sExpr (eCall m_check_players 1 (aCons (eVar 0) aNil)))
  (sSeq (sRet (eCall m_stands 2 (aCons (eVar 0) (aCons (eVar 1) aNil))))
  sNil))
def m_check_plan : SemF := fnSem 2
  (sSeq (sExpr (eCall m_check_players 1 (aCons (eVar 0) aNil)))
  (sSeq (sIf (tNotS (tOf (eCall m_stands 2 (aCons (eVar 0) (aCons (eVar 1) aNil))))) (sSeq (sRaise 2)
  sNil) sNil)
  sNil))
def m_all_pairs : SemF := fnSem 4
  (sSeq (sSet .own 1 (eLst aNil))
  (sSeq (sFor (itR1 (aCons (eVar 0) aNil)) (.one 2) (sSeq (sExtA 1 (eLc (itR2 (aCons (eOp oAdd (eVar 2) (eC (.int 1))) (aCons (eVar 0) aNil))) [3] (.one 3) tTrue (eTup (aCons (eVar 2) (aCons (eVar 3) aNil)))))
  sNil))
  (sSeq (sRet (eVar 1))
  sNil)))
def m_left_of : SemF := fnSem 4
  (sSeq (sSet .dat 2 (eCall m_pairs_met 1 (aCons (eVar 1) aNil)))
  (sSeq (sRet (eLc (itSeq (eCall m_all_pairs 1 (aCons (eVar 0) aNil))) [3] (.one 3) (tOf (eOp (cD notInP) (eVar 3) (eVar 2))) (eVar 3)))
  sNil))
def m__law_cell_at (ns : List Int) : SemF := fnSem 4
  (sSeq (sIf (tOf (eOp (cD ltP) (eVar 1) (eBc (oLenS ns) (aCons (eVar 0) aNil)))) (sSeq (sRet (eOp (oIxS ns) (eVar 0) (eVar 1)))
  sNil) sNil)
  (sSeq (sIf (tOf (eOp (cEqS ns) (eVar 0) (eLst aNil))) (sSeq (sRet (eC (.int 0)))
  sNil) sNil)
  (sSeq (sSet .dat 2 (eOp (oIxS ns) (eVar 0) (eOp oMod (eVar 1) (eBc (oLenS ns) (aCons (eVar 0) aNil)))))
  (sSeq (sFor (itR1 (aCons (eBc oMin2 (aCons (eOp oFdiv (eVar 1) (eBc (oLenS ns) (aCons (eVar 0) aNil))) (aCons (eC (.int 60)) aNil))) aNil)) (.one 3) (sSeq (sSet .dat 2 (eOp oFdiv (eVar 2) (eC (.int 1000003))))
  sNil))
  (sSeq (sRet (eOp oAdd (eOp oAdd (eOp oMul (eOp (oIxS ns) (eVar 0) (eOp oMod (eVar 1) (eBc (oLenS ns) (aCons (eVar 0) aNil)))) (eC (.int 31))) (eVar 1)) (eOp oMul (eVar 2) (eC (.int 101)))))
  sNil)))))
def m__law_mixed (ns : List Int) : SemF := fnSem 4
  (sSeq (sSet .dat 3 (eOp oMod (eOp oAdd (eOp oAdd (eOp oMul (eCall (m__law_cell_at ns) 2 (aCons (eVar 0) (aCons (eVar 1) aNil))) (eC (.int 1103515245))) (eOp oMul (eC (.int 7919)) (eVar 1))) (eC (.int 12345))) (eC (.int 2147483647))))
  (sSeq (sRet (eOp oMod (eOp oMod (eOp oMod (eOp oPow (eVar 3) (eC (.int 5))) (eC (.int 2147483647))) (eC (.int 999983))) (eVar 2)))
  sNil))
def m__law_draw (ns : List Int) : SemF := fnSem 3
  (sSeq (sTwApp 1)
  (sSeq (sRet (eCall (m__law_mixed ns) 3 (aCons (eVar 0) (aCons (eLenTw 1) (aCons (eVar 2) aNil)))))
  sNil))
def m__law_pick (ns : List Int) : SemF := fnSem 3
  (sSeq (sRet (eOp oIx (eVar 2) (eCall (m__law_draw ns) 3 (aCons (eVar 0) (aCons (eVar 1) (aCons (eBc oLen (aCons (eVar 2) aNil)) aNil))))))
  sNil)
def m__law_every_three : SemF := fnSem 5
  (sSeq (sSet .own 1 (eLst aNil))
  (sSeq (sFor (itR1 (aCons (eVar 0) aNil)) (.one 2) (sSeq (sFor (itR2 (aCons (eOp oAdd (eVar 2) (eC (.int 1))) (aCons (eVar 0) aNil))) (.one 3) (sSeq (sExtA 1 (eLc (itR2 (aCons (eOp oAdd (eVar 3) (eC (.int 1))) (aCons (eVar 0) aNil))) [4] (.one 4) tTrue (eTup (aCons (eVar 2) (aCons (eVar 3) (aCons (eVar 4) aNil))))))
  sNil))
  sNil))
  (sSeq (sRet (eVar 1))
  sNil)))
def m__law_clash : SemF := fnSem 3
  (sSeq (sRet (eOp (cD gtP) (eBc oLen (aCons (eLc (itSeq (eVar 0)) [2] (.one 2) (tOf (eOp (cD inP) (eVar 2) (eVar 1))) (eVar 2)) aNil)) (eC (.int 1))))
  sNil)
def m__law_some_plan (ns : List Int) : SemF := fnSem 8
  (sSeq (sPar .dat 4 (eCall m__law_every_three 1 (aCons (eVar 2) aNil)) .own 5 (eLst aNil))
  (sSeq (sFor (itR1 (aCons (eCall (m__law_draw ns) 3 (aCons (eVar 0) (aCons (eVar 1) (aCons (eOp oAdd (eVar 3) (eC (.int 1))) aNil)))) aNil)) (.one 6) (sSeq (sIf (tOf (eOp (cD neP) (eVar 4) (eLst aNil))) (sSeq (sApp 5 (eCall (m__law_pick ns) 3 (aCons (eVar 0) (aCons (eVar 1) (aCons (eVar 4) aNil)))))
  (sSeq (sAsgF 4 (eLc (itSeq (eVar 4)) [7] (.one 7) (tNotS (tOf (eCall m__law_clash 2 (aCons (eVar 7) (aCons (eOp oIx (eVar 5) (eNeg (eC (.int 1)))) aNil))))) (eVar 7)))
  sNil)) sNil)
  sNil))
  (sSeq (sRet (eBc oTuple (aCons (eBc oSort (aCons (eVar 5) aNil)) aNil)))
  sNil)))
def m__law_which : SemF := fnSem 2
  (sSeq (sSet .own 1 (eLst (aCons (eIsX 0 0) (aCons (eIsX 1 0) (aCons (eIsX 2 0) aNil)))))
  (sSeq (sExt 1 (eLst (aCons (eIsX 3 0) (aCons (eIsX 4 0) (aCons (eIsX 5 0) aNil)))))
  (sSeq (sExt 1 (eLst (aCons (eIsX 6 0) (aCons (eIsX 7 0) (aCons (eIsX 8 0) aNil)))))
  (sSeq (sExt 1 (eLst (aCons (eIsX 9 0) (aCons (eIsX 10 0) aNil))))
  (sSeq (sIf (tOrS (tOf (eOp (cD neP) (eM1 countD (eVar 1) (eC (.bool true))) (eC (.int 1)))) (tNotS (tOf (eIsVE 0)))) (sSeq (sRet (eTup (aCons (eC (.str "raised")) (aCons (eNeg (eC (.int 1))) aNil))))
  sNil) sNil)
  (sSeq (sRet (eTup (aCons (eC (.str "raised")) (aCons (eM1 idxD (eVar 1) (eC (.bool true))) aNil))))
  sNil))))))
def m_open_list : SemF := fnSem 8
  (sSeq (sSet .dat 2 (eCall m_left_of 2 (aCons (eVar 0) (aCons (eVar 1) aNil))))
  (sSeq (sSet .own 3 (eLst aNil))
  (sSeq (sFor (itSeq (eCall m_all_pairs 1 (aCons (eVar 0) aNil))) (.tup [4, 5]) (sSeq (sFor (itR2 (aCons (eOp oAdd (eVar 5) (eC (.int 1))) (aCons (eVar 0) aNil))) (.one 6) (sSeq (sIf (tOf (eBc oAll (aCons (eLc (itSeq (eCall m_pairs_of 1 (aCons (eTup (aCons (eVar 4) (aCons (eVar 5) (aCons (eVar 6) aNil)))) aNil))) [7] (.one 7) tTrue (eOp (cD inP) (eVar 7) (eVar 2))) aNil))) (sSeq (sApp 3 (eTup (aCons (eVar 4) (aCons (eVar 5) (aCons (eVar 6) aNil)))))
  sNil) sNil)
  sNil))
  sNil))
  (sSeq (sRet (eVar 3))
  sNil))))
def m_open_threes : SemF := fnSem 2
  (sSeq (sExpr (eCall m_check_plan 2 (aCons (eVar 0) (aCons (eVar 1) aNil))))
  (sSeq (sRet (eCall m_open_list 2 (aCons (eVar 0) (aCons (eVar 1) aNil))))
  sNil))
def m_completion : SemF := fnSem 3
  (sSeq (sExpr (eCall m_check_plan 2 (aCons (eVar 0) (aCons (eVar 1) aNil))))
  (sSeq (sSet .dat 2 (eCall m_open_list 2 (aCons (eVar 0) (aCons (eVar 1) aNil))))
  (sSeq (whGo (tOf (eOp (cD neP) (eVar 2) (eLst aNil))) (sSeq (sSet .dat 1 (eBc oTuple (aCons (eBc oSort (aCons (eOp oAdd (eVar 1) (eTup (aCons (eOp oIx (eVar 2) (eC (.int 0))) aNil))) aNil)) aNil)))
  (sSeq (sSet .dat 2 (eCall m_open_list 2 (aCons (eVar 0) (aCons (eVar 1) aNil))))
  sNil)) 10000000000000000000000000000000000000000)
  (sSeq (sRet (eVar 1))
  sNil))))
def m_greatest : SemF := fnSem 1
  (sSeq (sExpr (eCall m_check_players 1 (aCons (eVar 0) aNil)))
  (sSeq (sRet (eOp oIx (eLst (aCons (eC (.int 1)) (aCons (eC (.int 1)) (aCons (eC (.int 2)) (aCons (eC (.int 4)) (aCons (eC (.int 7)) (aCons (eC (.int 8)) (aCons (eC (.int 12)) aNil)))))))) (eOp oSub (eVar 0) (eC (.int 3)))))
  sNil))
def m__law_same_number : SemF := fnSem 2
  (sSeq (sRet (eAnd (eIsT .int (eVar 0)) (eAnd (eNot (eIsT .bool (eVar 0))) (eOp (cD eqP) (eVar 0) (eVar 1)))))
  sNil)
end PM
/-! The script's draws. -/
namespace PM
open PySem DL
theorem seq_nx {a b : SemS} {δ δ1 : En} {S S1 : Sto} (h : a δ S = some (.nx, δ1, S1)) : sSeq a b δ S = b δ1 S1 := by
  unfold sSeq
  rw [h]
theorem seq_rt {a b : SemS} {δ δ1 : En} {S S1 : Sto} {u : U} (h : a δ S = some (.rt u, δ1, S1)) : sSeq a b δ S = some (.rt u, δ1, S1) := by
  unfold sSeq
  rw [h]
theorem fn_rt {n : Nat} {b : SemS} {us : List U} {S S1 : Sto} {u : U} {δ1 : En} (h : b (startE n us) S = some (.rt u, δ1, S1)) : fnSem n b us S = some (.ok u, S1) := by
  unfold fnSem
  rw [h]
theorem ixS_ok {ns : List Int} {k : Nat} (h : k < ns.length) : oIxS ns .sc (.d (.int (k : Int))) = some (.d (.int (ns[k]'h))) := by
  unfold oIxS L2.atI L2.ixN
  simp [h]
theorem spare_loop (k : U) : ∀ (l : List PyData) (z : Int) (x : Option Cell) (S : Sto), ∃ (z' : Int) (x' : Option Cell), forGo (.one 3) (sSeq (sSet .dat 2 (eOp oFdiv (eVar 2) (eC (.int 1000003)))) sNil) l [some (.u .sc), some (.u k), some (.u (.d (.int z))), x] S = some (.nx, [some (.u .sc), some (.u k), some (.u (.d (.int z'))), x'], S)
  | [], z, x, S => ⟨z, x, rfl⟩
  | a :: l, z, x, S => by
    obtain ⟨z', x', h⟩ := spare_loop k l (z.fdiv 1000003) (some (.u (.d a))) S
    refine ⟨z', x', ?_⟩
    rw [← h]
    simp [forGo, Tg.split, setD, sSeq, sSet, eOp, bnd, eVar, eC, oFdiv, put, sNil]
theorem cell_at (ns : List Int) (h63 : ns.length ≤ 63) (k : Nat) (S : Sto) : ∃ z, m__law_cell_at ns [.sc, .d (.int k)] S = some (.ok (.d (.int z)), S) := by
  unfold m__law_cell_at
  by_cases h : k < ns.length
  · refine ⟨ns[k], fn_rt (δ1 := startE 4 [.sc, .d (.int k)]) ?_⟩
    refine seq_rt ?_
    simp [sIf, tOf, eOp, bnd, eVar, startE, bor, borC, eBc, aCons, aNil, oLenS, cD, ltP, h, sSeq, sRet, ixS_ok h]
  · have e1 : sIf (tOf (eOp (cD ltP) (eVar 1) (eBc (oLenS ns) (aCons (eVar 0) aNil)))) (sSeq (sRet (eOp (oIxS ns) (eVar 0) (eVar 1))) sNil) sNil (startE 4 [.sc, .d (.int k)]) S = some (.nx, startE 4 [.sc, .d (.int k)], S) := by
      simp [sIf, tOf, eOp, bnd, eVar, startE, bor, borC, eBc, aCons, aNil, oLenS, cD, ltP, h, sNil]
    cases ns with
    | nil =>
      refine ⟨0, fn_rt (δ1 := startE 4 [.sc, .d (.int k)]) ?_⟩
      rw [seq_nx e1]
      exact seq_rt rfl
    | cons n0 nr =>
      have hl : 0 < (n0 :: nr).length := Nat.succ_pos _
      obtain ⟨ns, hns⟩ : ∃ ns, ns = n0 :: nr := ⟨_, rfl⟩
      have e0 : eqP (scD (n0 :: nr)) (.list []) = some false := by
        unfold eqP
        rw [if_pos (by rw [show dOk (.list []) = true by decide, Bool.or_true])]
        rfl
      have e2 : sIf (tOf (eOp (cEqS (n0 :: nr)) (eVar 0) (eLst aNil))) (sSeq (sRet (eC (.int 0))) sNil) sNil (startE 4 [.sc, .d (.int k)]) S = some (.nx, startE 4 [.sc, .d (.int k)], S) := by
        simp [sIf, tOf, eOp, bnd, eVar, startE, bor, borC, eLst, aNil, allD, cEqS, e0, sNil]
      rw [← hns] at e1 e2 hl h63 ⊢
      have hm : k % ns.length < ns.length := Nat.mod_lt _ hl
      have hq : ((k : Int).fmod (ns.length : Int)) = ((k % ns.length : Nat) : Int) := by
        rw [Int.fmod_eq_emod_of_nonneg _ (Int.natCast_nonneg _)]
        rfl
      obtain ⟨z, x', hz⟩ := spare_loop (.d (.int k)) (intsD 0 (if (60 : Int) < (k : Int).fdiv ns.length then (60 : Int) else (k : Int).fdiv ns.length).toNat) (ns[k % ns.length]) none S
      have e3 : sSet .dat 2 (eOp (oIxS ns) (eVar 0) (eOp oMod (eVar 1) (eBc (oLenS ns) (aCons (eVar 0) aNil)))) (startE 4 [.sc, .d (.int k)]) S = some (.nx, [some (.u .sc), some (.u (.d (.int k))), some (.u (.d (.int ns[k % ns.length]))), none], S) := by
        have hz0 : (ns.length : Int) ≠ 0 := by omega
        have hz1 : ¬ ns = [] := by intro z; rw [z] at hl; exact absurd hl (by decide)
        simp [sSet, eOp, bnd, eVar, startE, eBc, aCons, aNil, oLenS, oMod, hz0, hz1, hq, put, ixS_ok hm]
        rw [← Int.natCast_emod, ixS_ok hm]
      have hz0 : (ns.length : Int) ≠ 0 := by omega
      have hz1 : ¬ ns = [] := by intro z; rw [z] at hl; exact absurd hl (by decide)
      have hz2 : ns.length < 1073741824 := by omega
      have hq0 : (k : Int).fdiv ns.length = ((k / ns.length : Nat) : Int) := by
        rw [Int.fdiv_eq_ediv_of_nonneg _ (Int.natCast_nonneg _)]
        rfl
      have e4 : sFor (itR1 (aCons (eBc oMin2 (aCons (eOp oFdiv (eVar 1) (eBc (oLenS ns) (aCons (eVar 0) aNil))) (aCons (eC (.int 60)) aNil))) aNil)) (.one 3) (sSeq (sSet .dat 2 (eOp oFdiv (eVar 2) (eC (.int 1000003)))) sNil) [some (.u .sc), some (.u (.d (.int k))), some (.u (.d (.int ns[k % ns.length]))), none] S = some (.nx, [some (.u .sc), some (.u (.d (.int k))), some (.u (.d (.int z))), x'], S) := by
        rw [← hz]
        have hb : (if (60 : Int) < (k : Int).fdiv ns.length then (60 : Int) else (k : Int).fdiv ns.length).natAbs < 2 ^ 40 := by
          rw [hq0]
          have h0 : (0 : Int) ≤ ((k / ns.length : Nat) : Int) := Int.natCast_nonneg _
          generalize ((k / ns.length : Nat) : Int) = q' at h0 ⊢
          split <;> omega
        have ha : itR1 (aCons (eBc oMin2 (aCons (eOp oFdiv (eVar 1) (eBc (oLenS ns) (aCons (eVar 0) aNil))) (aCons (eC (.int 60)) aNil))) aNil) [some (.u .sc), some (.u (.d (.int k))), some (.u (.d (.int ns[k % ns.length]))), none] S = some (.ok (intsD 0 (if (60 : Int) < (k : Int).fdiv ns.length then (60 : Int) else (k : Int).fdiv ns.length).toNat), S) := by
          unfold itR1
          simp only [aCons, aNil, eBc, eOp, bnd, eVar, eC, oLenS, oMin2, oFdiv, List.getElem?_cons_zero, List.getElem?_cons_succ]
          rw [if_pos ⟨hz0, by simpa using hz2⟩]
          simp only []
          rw [if_pos hb]
        unfold sFor
        rw [ha]
      refine ⟨ns[k % ns.length] * 31 + k + z * 101, fn_rt (δ1 := [some (.u .sc), some (.u (.d (.int k))), some (.u (.d (.int z))), x']) ?_⟩
      rw [seq_nx e1, seq_nx e2, seq_nx e3, seq_nx e4]
      refine seq_rt ?_
      cases x' with
      | none =>
        simp [sRet, bor, borC, sSet, eOp, bnd, eVar, eC, startE, eBc, aCons, aNil, oLenS, oMod, oMul, oAdd, hz0, hz1, put]
        rw [hq, ixS_ok hm]
        simp
      | some c =>
        simp [sRet, bor, borC, sSet, eOp, bnd, eVar, eC, startE, eBc, aCons, aNil, oLenS, oMod, oMul, oAdd, hz0, hz1, put]
        rw [hq, ixS_ok hm]
        simp
theorem mixed (ns : List Int) (h63 : ns.length ≤ 63) (k : Nat) (m : Int) (hm : 0 < m) (S : Sto) : ∃ z, 0 ≤ z ∧ z < m ∧ m__law_mixed ns [.sc, .d (.int k), .d (.int m)] S = some (.ok (.d (.int z)), S) := by
  obtain ⟨c, hc⟩ := cell_at ns h63 k S
  have h0 : 0 ≤ (c * 1103515245 + 7919 * k + 12345).fmod 2147483647 := Int.fmod_nonneg_of_pos _ (by decide)
  have h1 : (c * 1103515245 + 7919 * k + 12345).fmod 2147483647 < 2147483647 := Int.fmod_lt_of_pos _ (by decide)
  have h2 : ((c * 1103515245 + 7919 * k + 12345).fmod 2147483647).natAbs < 2 ^ 64 := by omega
  refine ⟨(((((c * 1103515245 + 7919 * k + 12345).fmod 2147483647) ^ 5).fmod 2147483647).fmod 999983).fmod m, Int.fmod_nonneg_of_pos _ hm, Int.fmod_lt_of_pos _ hm, ?_⟩
  have e1 : sSet .dat 3 (eOp oMod (eOp oAdd (eOp oAdd (eOp oMul (eCall (m__law_cell_at ns) 2 (aCons (eVar 0) (aCons (eVar 1) aNil))) (eC (.int 1103515245))) (eOp oMul (eC (.int 7919)) (eVar 1))) (eC (.int 12345))) (eC (.int 2147483647))) (startE 4 [.sc, .d (.int k), .d (.int m)]) S = some (.nx, [some (.u .sc), some (.u (.d (.int k))), some (.u (.d (.int m))), some (.u (.d (.int ((c * 1103515245 + 7919 * k + 12345).fmod 2147483647))))], S) := by
    simp [sSet, eOp, bnd, eCall, startE, eVar, eC, aCons, aNil, hc, oMul, oAdd, oMod, put]
  unfold m__law_mixed
  refine fn_rt (δ1 := [some (.u .sc), some (.u (.d (.int k))), some (.u (.d (.int m))), some (.u (.d (.int ((c * 1103515245 + 7919 * k + 12345).fmod 2147483647))))]) ?_
  rw [seq_nx e1]
  generalize (c * 1103515245 + 7919 * k + 12345).fmod 2147483647 = q at h0 h1 h2 ⊢
  refine seq_rt ?_
  have hm' : m ≠ 0 := by omega
  simp [sRet, bor, borC, eOp, bnd, eVar, eC, oPow, oMod, h2, hm']
/-- a draw -/
theorem draw (ns : List Int) (h63 : ns.length ≤ 63) (t : Nat) (ht : t < 100000) (m : Int) (hm : 0 < m) (os : List Org) : ∃ z, 0 ≤ z ∧ z < m ∧ m__law_draw ns [.sc, .tw, .d (.int m)] ⟨some t, os⟩ = some (.ok (.d (.int z)), ⟨some (t + 1), os⟩) := by
  obtain ⟨z, h0, h1, e⟩ := mixed ns h63 (t + 1) m hm ⟨some (t + 1), os⟩
  refine ⟨z, h0, h1, ?_⟩
  unfold m__law_draw
  refine fn_rt (δ1 := startE 3 [.sc, .tw, .d (.int m)]) ?_
  have hl : t < LIM := Nat.lt_of_lt_of_le ht (by decide)
  have e1 : sTwApp 1 (startE 3 [.sc, .tw, .d (.int m)]) ⟨some t, os⟩ = some (.nx, startE 3 [.sc, .tw, .d (.int m)], ⟨some (t + 1), os⟩) := by
    simp [sTwApp, startE, hl]
  rw [seq_nx e1]
  refine seq_rt ?_
  have e' : m__law_mixed ns [.sc, .d (.int ((t : Int) + 1)), .d (.int m)] ⟨some (t + 1), os⟩ = some (.ok (.d (.int z)), ⟨some (t + 1), os⟩) := by
    rw [← e]; rfl
  simp [sRet, bor, borC, eCall, bnd, eVar, eC, aCons, aNil, eLenTw, startE, e']
theorem at_ok {α : Type} {xs : List α} {z : Int} (h0 : 0 ≤ z) (h1 : z < xs.length) : ∃ x, x ∈ xs ∧ xs[z.toNat]? = some x ∧ L2.atI xs z = some x := by
  have hl : z.toNat < xs.length := by omega
  refine ⟨xs[z.toNat], List.getElem_mem hl, List.getElem?_eq_getElem hl, ?_⟩
  unfold L2.atI L2.ixN
  have h2 : ¬ z < 0 := by omega
  simp [h2, h1, h0]
/-- a pick of a list -/
theorem pick (ns : List Int) (h63 : ns.length ≤ 63) (t : Nat) (ht : t < 100000) (xs : List PyData) (hx : xs ≠ []) (os : List Org) : ∃ x, x ∈ xs ∧ m__law_pick ns [.sc, .tw, .d (.list xs)] ⟨some t, os⟩ = some (.ok (.d x), ⟨some (t + 1), os⟩) := by
  have hp : 0 < (xs.length : Int) := by
    have := List.length_pos_iff.mpr hx
    omega
  obtain ⟨z, h0, h1, e⟩ := draw ns h63 t ht xs.length hp os
  obtain ⟨x, hm, _, ha⟩ := at_ok h0 h1
  refine ⟨x, hm, ?_⟩
  unfold m__law_pick
  refine fn_rt (δ1 := startE 3 [.sc, .tw, .d (.list xs)]) ?_
  refine seq_rt ?_
  simp [sRet, bor, borC, eOp, eBc, eCall, bnd, eVar, eC, aCons, aNil, startE, oLen, e, oIx, ha]
end PM
/-! Rules for simp: each word at its cells. Printed by mkap.py. -/
namespace DL
open PySem L2
@[simp] theorem ap_eVar (i : Nat) (δ : En) (S : Sto) : eVar i δ S = (match δ[i]? with
  | some (some (.u x)) => some (.ok x, S)
  | _ => none) := rfl
@[simp] theorem ap_eC (x : PyData) (δ : En) (S : Sto) : eC x δ S = (some (.ok (.d x), S)) := rfl
@[simp] theorem ap_aNil (δ : En) (S : Sto) : aNil  δ S = (some (.ok [], S)) := rfl
@[simp] theorem ap_aCons (f : SemE) (r : SemA) (δ : En) (S : Sto) : aCons f r δ S = (bnd (f δ S) fun x S => bnd (r δ S) fun xs S => some (.ok (x :: xs), S)) := rfl
@[simp] theorem ap_eTup (a : SemA) (δ : En) (S : Sto) : eTup a δ S = (bnd (a δ S) fun us S => match allD us with
  | some ds => if ds.length ≤ 1000 then some (.ok (.d (.tuple ds)), S) else none
  | none => none) := rfl
@[simp] theorem ap_eLst (a : SemA) (δ : En) (S : Sto) : eLst a δ S = (bnd (a δ S) fun us S => match allD us with
  | some ds => if ds.length ≤ 1000 then some (.ok (.d (.list ds)), S) else none
  | none => none) := rfl
@[simp] theorem ap_eOp (op : U → U → Option U) (f h : SemE) (δ : En) (S : Sto) : eOp op f h δ S = (bnd (f δ S) fun x S => bnd (h δ S) fun y S => match op x y with
  | some z => some (.ok z, S)
  | none => none) := rfl
@[simp] theorem ap_tOf (f : SemE) (δ : En) (S : Sto) : tOf f δ S = (bnd (f δ S) fun x S => match x with
  | .d (.bool b) => some (.ok b, S)
  | _ => none) := rfl
@[simp] theorem ap_eChain (o o' : U → U → Option U) (f h l : SemE) (δ : En) (S : Sto) : eChain o o' f h l δ S = (bnd (f δ S) fun x S => bnd (h δ S) fun y S => match o x y with
  | some (.d (.bool true)) => bnd (l δ S) fun z S => (match o' y z with
    | some z => some (.ok z, S)
    | none => none)
  | some (.d (.bool false)) => some (.ok (.d (.bool false)), S)
  | _ => none) := rfl
@[simp] theorem ap_eAnd (f h : SemE) (δ : En) (S : Sto) : eAnd f h δ S = (bnd (f δ S) fun x S => match x with
  | .d (.bool true) => h δ S
  | .d (.bool false) => some (.ok (.d (.bool false)), S)
  | _ => none) := rfl
@[simp] theorem ap_eOr (f h : SemE) (δ : En) (S : Sto) : eOr f h δ S = (bnd (f δ S) fun x S => match x with
  | .d (.bool true) => some (.ok (.d (.bool true)), S)
  | .d (.bool false) => h δ S
  | _ => none) := rfl
@[simp] theorem ap_eNot (f : SemE) (δ : En) (S : Sto) : eNot f δ S = (bnd (f δ S) fun x S => match x with
  | .d (.bool b) => some (.ok (.d (.bool (!b))), S)
  | _ => none) := rfl
@[simp] theorem ap_eIf (c : SemT) (f h : SemE) (δ : En) (S : Sto) : eIf c f h δ S = (bnd (c δ S) fun b S => if b = true then f δ S else h δ S) := rfl
@[simp] theorem ap_tAndS (f h : SemT) (δ : En) (S : Sto) : tAndS f h δ S = (bnd (f δ S) fun b S => if b = true then h δ S else some (.ok false, S)) := rfl
@[simp] theorem ap_tOrS (f h : SemT) (δ : En) (S : Sto) : tOrS f h δ S = (bnd (f δ S) fun b S => if b = true then some (.ok true, S) else h δ S) := rfl
@[simp] theorem ap_tNotS (f : SemT) (δ : En) (S : Sto) : tNotS f δ S = (bnd (f δ S) fun b S => some (.ok (!b), S)) := rfl
@[simp] theorem ap_eBc (op : List U → Option U) (a : SemA) (δ : En) (S : Sto) : eBc op a δ S = (bnd (a δ S) fun us S => match op us with
  | some z => some (.ok z, S)
  | none => none) := rfl
@[simp] theorem ap_eIsT (T : Ty) (f : SemE) (δ : En) (S : Sto) : eIsT T f δ S = (bnd (f δ S) fun x S => match x with
  | .d x => some (.ok (.d (.bool (isT T x))), S)
  | _ => none) := rfl
@[simp] theorem ap_eNeg (f : SemE) (δ : En) (S : Sto) : eNeg f δ S = (bnd (f δ S) fun x S => match x with
  | .d (.int i) => some (.ok (.d (.int (-i))), S)
  | _ => none) := rfl
@[simp] theorem ap_oNo (δ : En) (S : Sto) : oNo  δ S = (some (.ok none, S)) := rfl
@[simp] theorem ap_oSome (f : SemE) (δ : En) (S : Sto) : oSome f δ S = (bnd (f δ S) fun x S => match x with
  | .d (.int i) => some (.ok (some i), S)
  | _ => none) := rfl
@[simp] theorem ap_eSl (f : SemE) (lo hi : SemO) (δ : En) (S : Sto) : eSl f lo hi δ S = (bnd (f δ S) fun x S => bnd (lo δ S) fun l S => bnd (hi δ S) fun u S => match x with
  | .d (.list xs) => some (.ok (.d (.list (cutD xs l u))), S)
  | .d (.tuple xs) => some (.ok (.d (.tuple (cutD xs l u))), S)
  | _ => none) := rfl
@[simp] theorem ap_itSeq (f : SemE) (δ : En) (S : Sto) : itSeq f δ S = (bnd (f δ S) fun x S => match x with
  | .d (.list xs) => some (.ok xs, S)
  | .d (.tuple xs) => some (.ok xs, S)
  | .d (.str z) => some (.ok (signs z), S)
  | _ => none) := rfl
@[simp] theorem ap_itR1 (a : SemA) (δ : En) (S : Sto) : itR1 a δ S = (bnd (a δ S) fun us S => match us with
  | [.d (.int n)] => if n.natAbs < 2 ^ 40 then some (.ok (intsD 0 n.toNat), S) else none
  | _ => none) := rfl
@[simp] theorem ap_itR2 (a : SemA) (δ : En) (S : Sto) : itR2 a δ S = (bnd (a δ S) fun us S => match us with
  | [.d (.int m), .d (.int n)] => if m.natAbs < 2 ^ 40 ∧ n.natAbs < 2 ^ 40 then some (.ok (intsD m (n - m).toNat), S) else none
  | _ => none) := rfl
@[simp] theorem ap_itZip (a : SemA) (δ : En) (S : Sto) : itZip a δ S = (bnd (a δ S) fun us S => match us with
  | [.d (.list xs), .d (.list ys)] => some (.ok (pairD xs ys), S)
  | [.d (.tuple xs), .d (.tuple ys)] => some (.ok (pairD xs ys), S)
  | _ => none) := rfl
@[simp] theorem ap_itEnum (a : SemA) (δ : En) (S : Sto) : itEnum a δ S = (bnd (a δ S) fun us S => match us with
  | [.d (.list xs)] => some (.ok (enumD xs), S)
  | _ => none) := rfl
@[simp] theorem ap_tTrue (δ : En) (S : Sto) : tTrue  δ S = (some (.ok true, S)) := rfl
@[simp] theorem ap_sNil (δ : En) (S : Sto) : sNil  δ S = (some (.nx, δ, S)) := rfl
@[simp] theorem ap_sSeq (s1 s2 : SemS) (δ : En) (S : Sto) : sSeq s1 s2 δ S = (match s1 δ S with
  | some (.nx, δ1, S1) => s2 δ1 S1
  | r => r) := rfl
@[simp] theorem ap_sRet (f : SemE) (δ : En) (S : Sto) : sRet f δ S = (match f (bor δ) S with
  | some (.ok u, S') => some (.rt u, δ, S')
  | some (.error c, S') => some (.ex c, δ, S')
  | none => none) := rfl
@[simp] theorem ap_sIf (c : SemT) (s1 s2 : SemS) (δ : En) (S : Sto) : sIf c s1 s2 δ S = (match c (bor δ) S with
  | some (.ok true, S') => s1 δ S'
  | some (.ok false, S') => s2 δ S'
  | some (.error c, S') => some (.ex c, δ, S')
  | none => none) := rfl
@[simp] theorem ap_sExpr (f : SemE) (δ : En) (S : Sto) : sExpr f δ S = (match f (bor δ) S with
  | some (.ok _, S') => some (.nx, δ, S')
  | some (.error c, S') => some (.ex c, δ, S')
  | none => none) := rfl
@[simp] theorem ap_sFrz (i : Nat) (f : SemS) (δ : En) (S : Sto) : sFrz i f δ S = (f (frz i δ) S) := rfl
@[simp] theorem ap_sAsg (i : Nat) (f : SemE) (δ : En) (S : Sto) : sAsg i f δ S = (match f δ S with
  | some (.ok u, S') => some (.nx, δ.set i (some (.u u)), S')
  | some (.error c, S') => some (.ex c, δ, S')
  | none => none) := rfl
@[simp] theorem ap_sAsgB (i : Nat) (f : SemE) (δ : En) (S : Sto) : sAsgB i f δ S = (match f (bor δ) S with
  | some (.ok u, S') => if noLstU u = true then some (.nx, δ.set i (some (.u u)), S') else none
  | some (.error c, S') => some (.ex c, δ, S')
  | none => none) := rfl
@[simp] theorem ap_sAsgF (i : Nat) (f : SemE) (δ : En) (S : Sto) : sAsgF i f δ S = (match f (bor δ) S with
  | some (.ok (.d (.list ds)), S') => if noLstAll ds = true then some (.nx, δ.set i (some (.u (.d (.list ds)))), S') else none
  | some (.error c, S') => some (.ex c, δ, S')
  | _ => none) := rfl
@[simp] theorem ap_sOwn (i : Nat) (f : SemE) (δ : En) (S : Sto) : sOwn i f δ S = (match f δ S with
  | some (.ok (.d (.list ds)), S') => some (.nx, δ.set i (some (.own ds)), S')
  | some (.error c, S') => some (.ex c, δ, S')
  | _ => none) := rfl
@[simp] theorem ap_sSet (kd : Kd) (i : Nat) (f : SemE) (δ : En) (S : Sto) : sSet kd i f δ S = (match f δ S with
  | some (.ok u, S') => (match put kd u with
    | some c => some (.nx, δ.set i (some c), S')
    | none => none)
  | some (.error c, S') => some (.ex c, δ, S')
  | none => none) := rfl
@[simp] theorem ap_sPar (k1 : Kd) (i : Nat) (f1 : SemE) (k2 : Kd) (j : Nat) (f2 : SemE) (δ : En) (S : Sto) : sPar k1 i f1 k2 j f2 δ S = (match f1 δ S with
  | some (.ok u, S1) => (match f2 δ S1 with
    | some (.ok w, S2) => (match put k1 u, put k2 w with
      | some c, some d => some (.nx, (δ.set i (some c)).set j (some d), S2)
      | _, _ => none)
    | some (.error c, S2) => some (.ex c, δ, S2)
    | none => none)
  | some (.error c, S1) => some (.ex c, δ, S1)
  | none => none) := rfl
@[simp] theorem ap_sUnp (tg : Tg) (f : SemE) (δ : En) (S : Sto) : sUnp tg f δ S = (match f δ S with
  | some (.ok (.d x), S') => (match tg.split x with
    | some ps => some (.nx, setD δ ps, S')
    | none => none)
  | some (.error c, S') => some (.ex c, δ, S')
  | _ => none) := rfl
@[simp] theorem ap_sApp (i : Nat) (f : SemE) (δ : En) (S : Sto) : sApp i f δ S = (match δ[i]? with
  | some (some (.own xs)) => (match f δ S with
    | some (.ok (.d y), S') => if xs.length < LIM then some (.nx, δ.set i (some (.own (xs ++ [y]))), S') else none
    | some (.error c, S') => some (.ex c, δ, S')
    | _ => none)
  | _ => none) := rfl
@[simp] theorem ap_sAppB (i : Nat) (f : SemE) (δ : En) (S : Sto) : sAppB i f δ S = (match δ[i]? with
  | some (some (.own xs)) => (match f (bor δ) S with
    | some (.ok (.d y), S') => if xs.length < LIM ∧ noLst y = true then some (.nx, δ.set i (some (.own (xs ++ [y]))), S') else none
    | some (.error c, S') => some (.ex c, δ, S')
    | _ => none)
  | _ => none) := rfl
@[simp] theorem ap_sExt (i : Nat) (f : SemE) (δ : En) (S : Sto) : sExt i f δ S = (match δ[i]? with
  | some (some (.own xs)) => (match f δ S with
    | some (.ok (.d (.list ys)), S') => if xs.length + ys.length ≤ LIM then some (.nx, δ.set i (some (.own (xs ++ ys))), S') else none
    | some (.error c, S') => some (.ex c, δ, S')
    | _ => none)
  | _ => none) := rfl
@[simp] theorem ap_sPop (i : Nat) (tg : Tg) (δ : En) (S : Sto) : sPop i tg δ S = (match δ[i]? with
  | some (some (.own xs)) => (match xs[xs.length - 1]? with
    | some y => (match tg.split y with
      | some ps => some (.nx, setD (δ.set i (some (.own xs.dropLast))) ps, S)
      | none => none)
    | none => none)
  | _ => none) := rfl
@[simp] theorem ap_sRaise (c : Nat) (δ : En) (S : Sto) : sRaise c δ S = (some (.ex c, δ, S)) := rfl
@[simp] theorem ap_fnSem (n : Nat) (body : SemS) (us : List U) (S : Sto) : fnSem n body us S = (match body (startE n us) S with
  | some (.nx, _, S') => some (.ok (.d .none), S')
  | some (.rt u, _, S') => some (.ok u, S')
  | some (.ex c, _, S') => some (.error c, S')
  | none => none) := rfl
@[simp] theorem ap_eCall (m : SemF) (np : Nat) (a : SemA) (δ : En) (S : Sto) : eCall m np a δ S = (bnd (a δ S) fun us S => if us.length = np then m us S else none) := rfl
@[simp] theorem ap_eLenTw (i : Nat) (δ : En) (S : Sto) : eLenTw i δ S = (match δ[i]?, S.tw with
  | some (some (.u .tw)), some n => some (.ok (.d (.int n)), S)
  | _, _ => none) := rfl
@[simp] theorem ap_sTwApp (i : Nat) (δ : En) (S : Sto) : sTwApp i δ S = (match δ[i]?, S.tw with
  | some (some (.u .tw)), some n => if n < LIM then some (.nx, δ, { S with tw := some (n + 1) }) else none
  | _, _ => none) := rfl
@[simp] theorem ap_sTown (i : Nat) (δ : En) (S : Sto) : sTown i δ S = (match S.tw with
  | none => some (.nx, δ.set i (some (.u .tw)), { S with tw := some 0 })
  | some _ => none) := rfl
@[simp] theorem ap_eLenSet (f : SemE) (δ : En) (S : Sto) : eLenSet f δ S = (bnd (f δ S) fun x S => match x with
  | .d (.list xs) => (match lenSetD xs with
    | some n => some (.ok (.d (.int n)), S)
    | none => none)
  | _ => none) := rfl
@[simp] theorem ap_eLRange (f : SemE) (δ : En) (S : Sto) : eLRange f δ S = (bnd (f δ S) fun x S => match x with
  | .d (.int n) => if n.natAbs ≤ 1000 then some (.ok (.d (.list (intsD 0 n.toNat))), S) else none
  | _ => none) := rfl
@[simp] theorem ap_eRev (f : SemE) (δ : En) (S : Sto) : eRev f δ S = (bnd (f δ S) fun x S => match x with
  | .d (.list xs) => some (.ok (.d (.list xs.reverse)), S)
  | _ => none) := rfl
@[simp] theorem ap_eCall0 (m : SemF) (δ : En) (S : Sto) : eCall0 m δ S = (m [] S) := rfl
@[simp] theorem ap_sAug (i : Nat) (f : SemE) (δ : En) (S : Sto) : sAug i f δ S = (match δ[i]? with
  | some (some (.u (.d (.int a)))) => (match f δ S with
    | some (.ok (.d (.int b)), S') => some (.nx, δ.set i (some (.u (.d (.int (a + b))))), S')
    | some (.error c, S') => some (.ex c, δ, S')
    | _ => none)
  | _ => none) := rfl
@[simp] theorem ap_sRem (i : Nat) (f : SemE) (δ : En) (S : Sto) : sRem i f δ S = (match δ[i]? with
  | some (some (.own xs)) => (match allI xs, f (bor δ) S with
    | some ns, some (.ok (.d (.int k)), S') => if k ∈ ns then some (.nx, δ.set i (some (.own ((ns.erase k).map .int))), S') else none
    | _, _ => none)
  | _ => none) := rfl
@[simp] theorem ap_eIdx (f h : SemE) (δ : En) (S : Sto) : eIdx f h δ S = (bnd (f δ S) fun x S => match x with
  | .d (.list xs) => bnd (h δ S) fun y S => (match y with
    | .d (.int k) => (match allI xs with
      | some ns => if k ∈ ns then some (.ok (.d (.int (ns.idxOf k))), S) else none
      | none => none)
    | _ => none)
  | _ => none) := rfl
@[simp] theorem ap_sExtA (i : Nat) (f : SemE) (δ : En) (S : Sto) : sExtA i f δ S = (match δ[i]? with
  | some (some (.own xs)) => (match f δ S with
    | some (.ok (.d (.list ys)), S') => if xs.length + ys.length ≤ LIM then some (.nx, δ.set i (some (.own (xs ++ ys))), S') else none
    | some (.ok (.d (.tuple ys)), S') => if xs.length + ys.length ≤ LIM then some (.nx, δ.set i (some (.own (xs ++ ys))), S') else none
    | some (.error c, S') => some (.ex c, δ, S')
    | _ => none)
  | _ => none) := rfl
@[simp] theorem ap_eIsX (i v : Nat) (δ : En) (S : Sto) : eIsX i v δ S = (match δ[v]? with
  | some (some (.u (.x c))) => some (.ok (.d (.bool (decide (min c 10 = min i 10)))), S)
  | _ => none) := rfl
@[simp] theorem ap_eIsVE (v : Nat) (δ : En) (S : Sto) : eIsVE v δ S = (match δ[v]? with
  | some (some (.u (.x c))) => some (.ok (.d (.bool true)), S)
  | _ => none) := rfl
@[simp] theorem ap_eM1 (op : List PyData → PyData → Option PyData) (f h : SemE) (δ : En) (S : Sto) : eM1 op f h δ S = (bnd (f δ S) fun x S => match x with
  | .d (.list xs) => bnd (h δ S) fun y S => (match y with
    | .d d => (match op xs d with
      | some z => some (.ok (.d z), S)
      | none => none)
    | _ => none)
  | _ => none) := rfl
@[simp] theorem ap_sTry (i : Nat) (body : SemS) (m : SemF) (δ : En) (S : Sto) : sTry i body m δ S = (match body δ S with
  | some (.ex c, δ1, S1) => if i < δ.length then (match m [.x c] S1 with
    | some (.ok (.d x), S2) => some (.rt (.d x), δ1, S2)
    | _ => none) else none
  | r => r) := rfl
@[simp] theorem ap_eCallL (ms : List SemF) (np : Nat) (fi : SemE) (a : SemA) (δ : En) (S : Sto) : eCallL ms np fi a δ S = (bnd (fi δ S) fun x S => match x with
  | .d (.int i) => (match atI ms i with
    | some m => bnd (a δ S) fun us S => if us.length = np then m us S else none
    | none => none)
  | _ => none) := rfl
@[simp] theorem ap_sSetC (i : Nat) (m : SemF) (np : Nat) (a : SemA) (δ : En) (S : Sto) : sSetC i m np a δ S = (match a (bor δ) S with
  | some (.ok us, S1) => if us.length = np ∧ us.all noLstU = true then (match m us S1 with
    | some (.ok u, S2) => some (.nx, δ.set i (some (.u u)), S2)
    | some (.error c, S2) => some (.ex c, δ, S2)
    | none => none) else none
  | some (.error c, S1) => some (.ex c, δ, S1)
  | none => none) := rfl
end DL
/-! The typed layer: what the defs compute of threes, pairs and plans. -/
namespace PM
open PySem DL PySem.W
@[simp] theorem bnd_ok {α β : Type} (a : α) (S : Sto) (k : α → Sto → Rs β) : bnd (some (.ok a, S)) k = k a S := rfl
@[simp] theorem bnd_er {α β : Type} (c : Nat) (S : Sto) (k : α → Sto → Rs β) : bnd (some (.error c, S)) k = some (.error c, S) := rfl
@[simp] theorem sp_allD0 : allD [] = some [] := rfl
@[simp] theorem sp_allD1 (x : PyData) (r : List U) : allD (.d x :: r) = (match allD r with | some xs => some (x :: xs) | none => none) := rfl
@[simp] theorem sp_cD (p : PyData → PyData → Option Bool) (x y : PyData) : cD p (.d x) (.d y) = (match p x y with | some b => some (.d (.bool b)) | none => none) := rfl
@[simp] theorem sp_put1 (u : U) : put .dat u = some (.u u) := rfl
@[simp] theorem sp_put2 (ds : List PyData) : put .own (.d (.list ds)) = some (.own ds) := rfl
@[simp] theorem sp_oLen1 (xs : List PyData) : oLen [.d (.list xs)] = some (.d (.int xs.length)) := rfl
@[simp] theorem sp_oLen2 (xs : List PyData) : oLen [.d (.tuple xs)] = some (.d (.int xs.length)) := rfl
@[simp] theorem sp_oIx1 (xs : List PyData) (i : Int) : oIx (.d (.list xs)) (.d (.int i)) = (match L2.atI xs i with | some x => some (.d x) | none => none) := rfl
@[simp] theorem sp_oIx2 (xs : List PyData) (i : Int) : oIx (.d (.tuple xs)) (.d (.int i)) = (match L2.atI xs i with | some x => some (.d x) | none => none) := rfl
@[simp] theorem sp_isT1 (d : PyData) : isT .int d = d.isInt := rfl
@[simp] theorem sp_isT2 (d : PyData) : isT .bool d = d.isBool := rfl
@[simp] theorem sp_isT3 (d : PyData) : isT .tuple d = d.isTuple := rfl
@[simp] theorem sp_isT4 (d : PyData) : isT .str d = d.isStr := rfl
@[simp] theorem sp_startE (n : Nat) (us : List U) : startE n us = us.map (fun u => some (Cell.u u)) ++ List.replicate (n - us.length) none := rfl
@[simp] theorem sp_bor (δ : En) : bor δ = δ.map (Option.map borC) := rfl
@[simp] theorem sp_borC1 (xs : List PyData) : borC (.own xs) = .u (.d (.list xs)) := rfl
@[simp] theorem sp_borC2 (x : U) : borC (.u x) = .u x := rfl
@[simp] theorem sp_oAdd1 (a b : Int) : oAdd (.d (.int a)) (.d (.int b)) = some (.d (.int (a + b))) := rfl
@[simp] theorem sp_oAdd2 (a b : List PyData) : oAdd (.d (.list a)) (.d (.list b)) = if a.length + b.length ≤ LIM then some (.d (.list (a ++ b))) else none := rfl
@[simp] theorem sp_oAdd3 (a b : List PyData) : oAdd (.d (.tuple a)) (.d (.tuple b)) = if a.length + b.length ≤ LIM then some (.d (.tuple (a ++ b))) else none := rfl
@[simp] theorem sp_oSub (a b : Int) : oSub (.d (.int a)) (.d (.int b)) = some (.d (.int (a - b))) := rfl
@[simp] theorem sp_oMul1 (a b : Int) : oMul (.d (.int a)) (.d (.int b)) = if a.natAbs < 2 ^ 63 ∨ b.natAbs < 2 ^ 63 then some (.d (.int (a * b))) else none := rfl
@[simp] theorem sp_oMul2 (a : List PyData) (b : Int) : oMul (.d (.list a)) (.d (.int b)) = if 0 ≤ b ∧ b ≤ 1000 ∧ a.length ≤ 1000 then some (.d (.list (rep b.toNat a))) else none := rfl
@[simp] theorem sp_oMul3 (a : List PyData) (b : Int) : oMul (.d (.tuple a)) (.d (.int b)) = if 2 ≤ b ∧ b ≤ 1000 ∧ a.length ≤ 1000 ∧ 0 < a.length then some (.d (.tuple (rep b.toNat a))) else none := rfl
@[simp] theorem sp_oFdiv (a b : Int) : oFdiv (.d (.int a)) (.d (.int b)) = if b ≠ 0 ∧ b.natAbs < 1073741824 then some (.d (.int (a.fdiv b))) else none := rfl
@[simp] theorem sp_oMod (a b : Int) : oMod (.d (.int a)) (.d (.int b)) = if b ≠ 0 then some (.d (.int (a.fmod b))) else none := rfl
@[simp] theorem sp_oMin2 (i j : Int) : oMin2 [.d (.int i), .d (.int j)] = some (.d (.int (if j < i then j else i))) := rfl
@[simp] theorem sp_oTuple1 (xs : List PyData) : oTuple [.d (.list xs)] = some (.d (.tuple xs)) := rfl
@[simp] theorem sp_oTuple2 (xs : List PyData) : oTuple [.d (.tuple xs)] = some (.d (.tuple xs)) := rfl
@[simp] theorem sp_oList1 (xs : List PyData) : oList [.d (.list xs)] = some (.d (.list xs)) := rfl
@[simp] theorem sp_oList2 (xs : List PyData) : oList [.d (.tuple xs)] = some (.d (.list xs)) := rfl
@[simp] theorem sp_wipe0 (δ : En) : wipeE δ [] = δ := rfl
@[simp] theorem sp_wipe1 (δ : En) (v : Nat) (vs : List Nat) : wipeE δ (v :: vs) = (wipeE δ vs).set v none := rfl
@[simp] theorem sp_frz (i : Nat) (δ : En) : frz i δ = (match δ[i]? with | some (some (.own xs)) => δ.set i (some (.u (.d (.list xs)))) | _ => δ) := rfl
/-- a comprehension without a stop, over encoded items -/
theorem lcGo_ok {α : Type} {tg : Tg} {test : SemT} {fe : SemE} {δ : En} {S : Sto} (e : α → PyData) (p : α → Bool) (v : α → PyData) : ∀ l : List α,
    (∀ x ∈ l, ∃ ps, tg.split (e x) = some ps ∧ test (setD δ ps) S = some (.ok (p x), S) ∧ (p x = true → fe (setD δ ps) S = some (.ok (.d (v x)), S))) → lcGo tg test fe δ (l.map e) S = some ((l.filter p).map v, S)
  | [], _ => rfl
  | x :: r, h => by
    obtain ⟨ps, e1, e2, e3⟩ := h x List.mem_cons_self
    have ih := lcGo_ok e p v r fun y hy => h y (List.mem_cons_of_mem _ hy)
    rw [List.map_cons]
    unfold lcGo
    rw [e1]
    simp only []
    rw [e2]
    cases hp : p x with
    | false =>
      simp only []
      rw [ih, List.filter_cons_of_neg (by rw [hp]; exact Bool.false_ne_true)]
    | true =>
      simp only []
      rw [e3 hp]
      simp only []
      rw [ih, List.filter_cons_of_pos hp]
      rfl
theorem lc_if {α : Type} {it : SemI} {vs : List Nat} {tg : Tg} {test : SemT} {fe : SemE} {δ : En} {S : Sto} (e : α → PyData) (l : List α) (p : α → Bool) (v : α → PyData) (hi : it δ S = some (.ok (l.map e), S)) (hl : l.length ≤ LIM)
    (h : ∀ x ∈ l, ∃ ps, tg.split (e x) = some ps ∧ test (setD (wipeE δ vs) ps) S = some (.ok (p x), S) ∧ (p x = true → fe (setD (wipeE δ vs) ps) S = some (.ok (.d (v x)), S))) : eLc it vs tg test fe δ S = some (.ok (.d (.list ((l.filter p).map v))), S) := by
  unfold eLc
  rw [hi, bnd_ok, if_pos (by rw [List.length_map]; exact hl), lcGo_ok e p v l h]
theorem lc_map {α : Type} {it : SemI} {vs : List Nat} {tg : Tg} {fe : SemE} {δ : En} {S : Sto} (e : α → PyData) (l : List α) (v : α → PyData) (hi : it δ S = some (.ok (l.map e), S)) (hl : l.length ≤ LIM)
    (h : ∀ x ∈ l, ∃ ps, tg.split (e x) = some ps ∧ fe (setD (wipeE δ vs) ps) S = some (.ok (.d (v x)), S)) : eLc it vs tg tTrue fe δ S = some (.ok (.d (.list (l.map v))), S) := by
  have := lc_if (it := it) (vs := vs) (tg := tg) (test := tTrue) (fe := fe) (δ := δ) (S := S) e l (fun _ => true) v hi hl fun x hx => by
    obtain ⟨ps, h1, h2⟩ := h x hx
    exact ⟨ps, h1, rfl, fun _ => h2⟩
  rw [this, List.filter_eq_self.mpr (fun _ _ => rfl)]
/-- a loop that gathers; γ: the other cells that it changes -/
theorem for_acc {α γ : Type} {tg : Tg} {body : SemS} {S : Sto} (E : List PyData → γ → En) (e : α → PyData) (f : α → List PyData) (B : Nat) : ∀ (l : List α) (acc : List PyData) (c : γ), acc.length + (l.flatMap f).length ≤ B →
    (∀ acc c x, x ∈ l → acc.length + (f x).length ≤ B → ∃ ps c', tg.split (e x) = some ps ∧ body (setD (E acc c) ps) S = some (.nx, E (acc ++ f x) c', S)) → ∃ c', forGo tg body (l.map e) (E acc c) S = some (.nx, E (acc ++ l.flatMap f) c', S)
  | [], acc, c, _, _ => ⟨c, by simp [forGo]⟩
  | x :: r, acc, c, hb, h => by
    rw [List.flatMap_cons, List.length_append] at hb
    obtain ⟨ps, c1, e1, e2⟩ := h acc c x List.mem_cons_self (by omega)
    obtain ⟨c2, e3⟩ := for_acc E e f B r (acc ++ f x) c1 (by rw [List.length_append]; omega) fun acc c y hy => h acc c y (List.mem_cons_of_mem _ hy)
    refine ⟨c2, ?_⟩
    rw [List.map_cons]
    unfold forGo
    rw [e1]
    simp only []
    rw [e2]
    simp only []
    rw [e3, List.flatMap_cons, List.append_assoc]
theorem seq_to {a b : SemS} {δ δ1 : En} {S S1 : Sto} {R : Option (Fl × En × Sto)} (h : a δ S = some (.nx, δ1, S1)) (k : b δ1 S1 = R) : sSeq a b δ S = R := (seq_nx h).trans k
theorem sFor_of {it : SemI} {tg : Tg} {body : SemS} {δ : En} {S S1 : Sto} {items : List PyData} {R : Option (Fl × En × Sto)} (hi : it δ S = some (.ok items, S1)) (h : forGo tg body items δ S1 = R) : sFor it tg body δ S = R := by
  unfold sFor
  rw [hi]
  exact h
/-! ### threes and pairs -/
abbrev T3 := Nat × Nat × Nat
abbrev P2 := Nat × Nat
def eI (a : Nat) : PyData := .int (a : Int)
def eT (t : T3) : PyData := .tuple [.int (t.1 : Int), .int (t.2.1 : Int), .int (t.2.2 : Int)]
def eQ (p : P2) : PyData := .tuple [.int (p.1 : Int), .int (p.2 : Int)]
def eP (l : List T3) : PyData := .tuple (l.map eT)
def prs (t : T3) : List P2 := [(t.1, t.2.1), (t.1, t.2.2), (t.2.1, t.2.2)]
def met (l : List T3) : List P2 := l.flatMap prs
theorem ev_is_integer (x lo hi : Int) (S : Sto) : m_is_integer [.d (.int x), .d (.int lo), .d (.int hi)] S = some (.ok (.d (.bool (decide (lo ≤ x ∧ x ≤ hi)))), S) := by
  unfold m_is_integer
  by_cases h1 : lo ≤ x <;> by_cases h2 : x ≤ hi <;> simp [leP, h1, h2, PyData.isInt, PyData.isBool]
theorem ev_check_players (n : Nat) (h : 3 ≤ n ∧ n ≤ 9) (S : Sto) : m_check_players [.d (.int n)] S = some (.ok (.d .none), S) := by
  unfold m_check_players
  have h1 : (3 : Int) ≤ n := by omega
  have h2 : (n : Int) ≤ 9 := by omega
  simp [ev_is_integer, h1, h2]
theorem ev_pairs_of (t : T3) (S : Sto) : m_pairs_of [.d (eT t)] S = some (.ok (.d (.list ((prs t).map eQ))), S) := by
  obtain ⟨a, b, c⟩ := t
  rfl
/-- the inverse, for loops over encoded items -/
def dT : PyData → T3
  | .tuple [.int a, .int b, .int c] => (a.toNat, b.toNat, c.toNat)
  | _ => (0, 0, 0)
def dQ : PyData → P2
  | .tuple [.int a, .int b] => (a.toNat, b.toNat)
  | _ => (0, 0)
def dI : PyData → Nat
  | .int a => a.toNat
  | _ => 0
@[simp] theorem dT_eT (t : T3) : dT (eT t) = t := by obtain ⟨a, b, c⟩ := t; rfl
@[simp] theorem dQ_eQ (t : P2) : dQ (eQ t) = t := by obtain ⟨a, b⟩ := t; rfl
@[simp] theorem dI_eI (t : Nat) : dI (eI t) = t := rfl
theorem met_len (l : List T3) : (met l).length = 3 * l.length := by
  induction l with
  | nil => rfl
  | cons t l ih => simp [met, prs] at *; omega
theorem ev_pairs_met (l : List T3) (h : l.length ≤ 1000) (S : Sto) : m_pairs_met [.d (eP l)] S = some (.ok (.d (.list ((met l).map eQ))), S) := by
  have e2 : l.flatMap (fun t => (prs t).map eQ) = (met l).map eQ := by rw [met, List.map_flatMap]
  obtain ⟨c', e⟩ := for_acc (tg := .one 2) (body := sSeq (sExtA 1 (eCall m_pairs_of 1 (aCons (eVar 2) aNil))) sNil) (S := S) (fun acc (c : Option Cell) => [some (.u (.d (eP l))), some (.own acc), c]) eT (fun t => (prs t).map eQ) LIM l [] none
    (by rw [e2, List.length_map, met_len]; simp [LIM]; omega) (fun acc c t ht hb => by
      refine ⟨[(2, eT t)], some (.u (.d (eT t))), rfl, ?_⟩
      simp at hb
      simp [setD, ev_pairs_of, hb])
  rw [e2] at e
  unfold m_pairs_met
  refine fn_rt (δ1 := [some (.u (.d (eP l))), some (.own ([] ++ (met l).map eQ)), c']) ?_
  refine seq_to (δ1 := [some (.u (.d (eP l))), some (.own []), none]) (S1 := S) rfl (seq_to (sFor_of (items := l.map eT) rfl e) ?_)
  cases c' <;> simp
/-! ### comparisons -/
theorem eqv_int (a b : Int) : PyData.eqv (.int a) (.int b) = decide (a = b) := by simp [PyData.eqv]; rfl
theorem eqv_tup (xs ys : List PyData) : PyData.eqv (.tuple xs) (.tuple ys) = PyData.eqvAll xs ys := by simp [PyData.eqv]
theorem eqv_list (xs ys : List PyData) : PyData.eqv (.list xs) (.list ys) = PyData.eqvAll xs ys := by simp [PyData.eqv]
/-- an encoding under which == is equality -/
def EqE {α : Type} [DecidableEq α] (e : α → PyData) : Prop := ∀ a b, PyData.eqv (e a) (e b) = decide (a = b)
theorem eqe_int : EqE (fun a : Int => PyData.int a) := eqv_int
theorem eqe_Q : EqE eQ := fun a b => by
  obtain ⟨a1, a2⟩ := a
  obtain ⟨b1, b2⟩ := b
  unfold eQ
  rw [eqv_tup]
  simp only [PyData.eqvAll, eqv_int, Bool.and_true]
  rw [← Bool.decide_and]
  exact decide_eq_decide.mpr (by simp only [Prod.mk.injEq]; omega)
theorem eqe_T : EqE eT := fun a b => by
  obtain ⟨a1, a2, a3⟩ := a
  obtain ⟨b1, b2, b3⟩ := b
  unfold eT
  rw [eqv_tup]
  simp only [PyData.eqvAll, eqv_int, Bool.and_true]
  rw [← Bool.decide_and, ← Bool.decide_and]
  exact decide_eq_decide.mpr (by simp only [Prod.mk.injEq]; omega)
theorem eqvAll_map {α : Type} [DecidableEq α] {e : α → PyData} (h : EqE e) : ∀ l m : List α, PyData.eqvAll (l.map e) (m.map e) = decide (l = m)
  | [], [] => rfl
  | [], _ :: _ => rfl
  | _ :: _, [] => rfl
  | a :: l, b :: m => by
    simp only [List.map_cons, PyData.eqvAll]
    rw [h a b, eqvAll_map h l m, ← Bool.decide_and]
    exact decide_eq_decide.mpr (by simp only [List.cons.injEq])
theorem eqe_tup {α : Type} [DecidableEq α] {e : α → PyData} (h : EqE e) : EqE (fun l : List α => PyData.tuple (l.map e)) := fun a b => by rw [eqv_tup]; exact eqvAll_map h a b
theorem eqe_list {α : Type} [DecidableEq α] {e : α → PyData} (h : EqE e) : EqE (fun l : List α => PyData.list (l.map e)) := fun a b => by rw [eqv_list]; exact eqvAll_map h a b
theorem eqe_P : EqE eP := eqe_tup eqe_T
theorem any_map {α : Type} [DecidableEq α] {e : α → PyData} (h : EqE e) (l : List α) (a : α) : ((l.map e).any fun y => PyData.eqv y (e a)) = decide (a ∈ l) := by
  induction l with
  | nil => rfl
  | cons b l ih =>
    rw [List.map_cons, List.any_cons, ih, h b a, ← Bool.decide_or]
    exact decide_eq_decide.mpr (by rw [List.mem_cons, eq_comm])
theorem dok_T (t : T3) : dOk (eT t) = true := rfl
theorem dok_Q (p : P2) : dOk (eQ p) = true := rfl
theorem dok_I (a : Int) : dOk (.int a) = true := rfl
theorem dok_nil : dOk (.list []) = true := rfl
theorem inP_l (d : PyData) (xs : List PyData) : inP d (.list xs) = if dOk d = true then some (xs.any fun y => PyData.eqv y d) else none := by cases d <;> rfl
theorem inP_t (d : PyData) (xs : List PyData) : inP d (.tuple xs) = if dOk d = true then some (xs.any fun y => PyData.eqv y d) else none := by cases d <;> rfl
theorem notInP_l (d : PyData) (xs : List PyData) : notInP d (.list xs) = if dOk d = true then some (!xs.any fun y => PyData.eqv y d) else none := by cases d <;> rfl
theorem inP_list {α : Type} [DecidableEq α] {e : α → PyData} (h : EqE e) (l : List α) (a : α) (hd : dOk (e a) = true) : inP (e a) (.list (l.map e)) = some (decide (a ∈ l)) := by
  rw [inP_l, if_pos hd, any_map h]
theorem notInP_list {α : Type} [DecidableEq α] {e : α → PyData} (h : EqE e) (l : List α) (a : α) (hd : dOk (e a) = true) : notInP (e a) (.list (l.map e)) = some (!decide (a ∈ l)) := by
  rw [notInP_l, if_pos hd, any_map h]
/-! order -/
def lexB {α : Type} [DecidableEq α] (lt : α → α → Bool) : List α → List α → Bool
  | [], [] => false
  | [], _ :: _ => true
  | _ :: _, [] => false
  | a :: l, b :: m => if a = b then lexB lt l m else lt a b
theorem rowLt_map {α : Type} [DecidableEq α] {e : α → PyData} {lt : α → α → Bool} (he : EqE e) (ha : ∀ a b, alike (e a) (e b) = true) (hl : ∀ a b, PySem.W.dataLt (e a) (e b) = lt a b) : ∀ l m : List α, PySem.W.rowLt (l.map e) (m.map e) = lexB lt l m
  | [], [] => PyProof.Rows.lex_irrefl _
  | [], b :: m => by
    unfold PySem.W.rowLt
    rw [List.map_cons, PySem.W.toks_all_cons]
    rfl
  | a :: l, [] => by
    unfold PySem.W.rowLt
    rw [List.map_cons, PySem.W.toks_all_cons]
    rfl
  | a :: l, b :: m => by
    have ih := rowLt_map he ha hl l m
    unfold PySem.W.rowLt at ih ⊢
    rw [List.map_cons, List.map_cons, PySem.W.dataLt_cons (ha a b), ih, he a b, hl a b]
    show _ = if a = b then lexB lt l m else lt a b
    by_cases h : a = b <;> simp [h]
def ltT (s t : T3) : Bool := decide (s.1 < t.1 ∨ (s.1 = t.1 ∧ (s.2.1 < t.2.1 ∨ (s.2.1 = t.2.1 ∧ s.2.2 < t.2.2))))
def ltI (a b : Int) : Bool := decide (a < b)
theorem dataLt_T (s t : T3) : PySem.W.dataLt (eT s) (eT t) = ltT s t := by
  obtain ⟨a1, a2, a3⟩ := s
  obtain ⟨b1, b2, b3⟩ := t
  have h := rowLt_map (e := PyData.int) (lt := ltI) eqe_int (fun a b => by simp [alike]) PySem.W.dataLt_int [(a1 : Int), a2, a3] [(b1 : Int), b2, b3]
  unfold eT
  rw [PySem.W.dataLt_tuple]
  refine h.trans ?_
  simp only [lexB, ltI, ltT]
  by_cases h1 : a1 = b1 <;> by_cases h2 : a2 = b2 <;> by_cases h3 : a3 = b3 <;> simp [h1, h2, h3] <;> omega
theorem alike_T (s t : T3) : alike (eT s) (eT t) = true := by simp [eT, alike, alikeAll]
theorem ltP_T (s t : T3) : ltP (eT s) (eT t) = some (ltT s t) := by
  unfold ltP
  simp only [eT]
  rw [if_pos (by simp [alike, alikeAll]; exact ⟨rfl, rfl⟩)]
  exact congrArg some (dataLt_T s t)
/-! ### what stands -/
def okT (n : Nat) (t : T3) : Bool := decide (t.1 < t.2.1 ∧ t.2.1 < t.2.2 ∧ t.2.2 < n)
def adj : List T3 → Bool
  | [] => true
  | [_] => true
  | a :: b :: l => ltT a b && adj (b :: l)
def standsB (n : Nat) (l : List T3) : Bool := l.all (okT n) && (decide (met l).Nodup && adj l)
theorem int_lt_of (a n : Nat) : ((0 : Int) ≤ a ∧ (a : Int) ≤ n - 1) ↔ a < n := by omega
theorem ev_fits (n : Nat) (t : T3) (S : Sto) : m_fits [.d (.int n), .d (eT t)] S = some (.ok (.d (.bool (okT n t))), S) := by
  obtain ⟨a, b, c⟩ := t
  have hn : neP (.int 3) (.int 3) = some false := rfl
  have e : (decide (a < n) && (decide (b < n) && decide (c < n)) && (decide (a < b) && decide (b < c))) = okT n (a, b, c) := by
    unfold okT
    simp only [← Bool.decide_and]
    exact decide_eq_decide.mpr (by omega)
  have el : eLc (itSeq (eVar 1)) [2] (.one 2) tTrue (eCall m_is_integer 3 (aCons (eVar 2) (aCons (eC (.int 0)) (aCons (eOp oSub (eVar 0) (eC (.int 1))) aNil)))) [some (.u (.d (.int n))), some (.u (.d (eT (a, b, c)))), none] S = some (.ok (.d (.list [.bool (decide (a < n)), .bool (decide (b < n)), .bool (decide (c < n))])), S) := by
    simp [eT, eLc, lcGo, Tg.split, setD, ev_is_integer, int_lt_of, LIM]
    omega
  rw [← e]
  unfold m_fits
  generalize ha : decide (a < n) = pa at el ⊢
  generalize hb : decide (b < n) = pb at el ⊢
  generalize hc : decide (c < n) = pc at el ⊢
  have e1 : sIf (tOrS (tNotS (tOf (eIsT .tuple (eVar 1)))) (tOrS (tOf (eOp (cD neP) (eBc oLen (aCons (eVar 1) aNil)) (eC (.int 3)))) (tNotS (tOf (eBc oAll (aCons (eLc (itSeq (eVar 1)) [2] (.one 2) tTrue (eCall m_is_integer 3 (aCons (eVar 2) (aCons (eC (.int 0)) (aCons (eOp oSub (eVar 0) (eC (.int 1))) aNil))))) aNil)))))) (sSeq (sRet (eC (.bool false))) sNil) sNil (startE 3 [.d (.int n), .d (eT (a, b, c))]) S = if (pa && (pb && pc)) = true then some (.nx, startE 3 [.d (.int n), .d (eT (a, b, c))], S) else some (.rt (.d (.bool false)), startE 3 [.d (.int n), .d (eT (a, b, c))], S) := by
    have hs : bor (startE 3 [.d (.int n), .d (eT (a, b, c))]) = [some (.u (.d (.int n))), some (.u (.d (eT (a, b, c)))), none] := rfl
    have h2 : startE 3 [.d (.int n), .d (eT (a, b, c))] = [some (.u (.d (.int n))), some (.u (.d (eT (a, b, c)))), none] := rfl
    rw [ap_sIf, hs]
    simp only [eT] at el ⊢
    simp [el, PyData.isTuple, hn, oAll, allB]
    cases pa <;> cases pb <;> cases pc <;> simp
  cases hp : (pa && (pb && pc)) with
  | false =>
    rw [hp] at e1
    exact fn_rt (seq_rt e1)
  | true =>
    rw [hp] at e1
    refine fn_rt (δ1 := startE 3 [.d (.int n), .d (eT (a, b, c))]) (seq_to e1 ?_)
    by_cases h4 : a < b <;> by_cases h5 : b < c <;> simp [eT, h4, h5, L2.atI, L2.ixN, ltP]
theorem adj_all : ∀ l : List T3, ((l.zip (l.drop 1)).all fun p => ltT p.1 p.2) = adj l
  | [] => rfl
  | [_] => rfl
  | a :: b :: l => by
    have ih := adj_all (b :: l)
    simp only [List.drop_succ_cons, List.drop_zero, List.zip_cons_cons, List.all_cons, adj] at ih ⊢
    rw [ih]
theorem allB_map {α : Type} (f : α → Bool) : ∀ l : List α, allB (l.map fun x => PyData.bool (f x)) = some (l.map f)
  | [] => rfl
  | x :: l => by
    simp only [List.map_cons, allB, allB_map f l]
theorem oAll_map {α : Type} (f : α → Bool) (l : List α) : oAll [.d (.list (l.map fun x => PyData.bool (f x)))] = some (.d (.bool (l.all f))) := by
  simp only [oAll, allB_map]
  simp [List.all_map]
theorem tupsOf_Q : ∀ l : List P2, tupsOf (l.map eQ) = some (l.map fun p => [(p.1 : Int), (p.2 : Int)])
  | [] => rfl
  | p :: l => by
    simp only [List.map_cons, tupsOf, tupsOf_Q l, eQ]
    rfl
theorem nodup_Q (l : List P2) : (l.map fun p => [(p.1 : Int), (p.2 : Int)]).Nodup ↔ l.Nodup := by
  unfold List.Nodup
  rw [List.pairwise_map]
  refine ⟨fun h => h.imp fun {a b} h e => h (by rw [e]), fun h => h.imp fun {a b} h e => h ?_⟩
  obtain ⟨a1, a2⟩ := a
  obtain ⟨b1, b2⟩ := b
  simp only [List.cons.injEq, and_true] at e
  simp only [Prod.mk.injEq]
  omega
theorem lenSet_Q (l : List P2) (h : l.length < 64) : ∃ k : Nat, lenSetD (l.map eQ) = some k ∧ (k = l.length ↔ l.Nodup) := by
  refine ⟨ndist (l.map fun p => [(p.1 : Int), (p.2 : Int)]), ?_, ?_⟩
  · unfold lenSetD
    rw [if_pos (by rw [List.length_map]; exact h), tupsOf_Q]
  · rw [← nodup_Q, ← ndist_nodup, List.length_map]
theorem pairD_map {α β : Type} (e : α → PyData) (f : β → PyData) (l : List α) (m : List β) : pairD (l.map e) (m.map f) = (l.zip m).map fun p => .tuple [e p.1, f p.2] := by
  unfold pairD
  rw [List.zip_map]
  simp
theorem cut1 (l : List T3) : cutD (l.map eT) (some 1) none = (l.drop 1).map eT := by
  unfold cutD HT.sIx
  simp only [List.length_map]
  cases l with
  | nil => rfl
  | cons a l =>
    simp
    rw [List.take_of_length_le (by simp)]
theorem ev_stands (n : Nat) (l : List T3) (hl : l.length ≤ 20) (S : Sto) : m_stands [.d (.int n), .d (eP l)] S = some (.ok (.d (.bool (standsB n l))), S) := by
  have el : eLc (itSeq (eVar 1)) [2] (.one 2) tTrue (eCall m_fits 2 (aCons (eVar 0) (aCons (eVar 2) aNil))) [some (.u (.d (.int n))), some (.u (.d (eP l))), none, none, none, none] S = some (.ok (.d (.list (l.map fun t => .bool (okT n t)))), S) :=
    lc_map eT l (fun t => .bool (okT n t)) rfl (by simp [LIM]; omega) (fun t ht => ⟨[(2, eT t)], rfl, by simp [setD, ev_fits]⟩)
  have e1 : sIf (tOrS (tNotS (tOf (eIsT .tuple (eVar 1)))) (tNotS (tOf (eBc oAll (aCons (eLc (itSeq (eVar 1)) [2] (.one 2) tTrue (eCall m_fits 2 (aCons (eVar 0) (aCons (eVar 2) aNil)))) aNil))))) (sSeq (sRet (eC (.bool false))) sNil) sNil (startE 6 [.d (.int n), .d (eP l)]) S = if l.all (okT n) = true then some (.nx, startE 6 [.d (.int n), .d (eP l)], S) else some (.rt (.d (.bool false)), startE 6 [.d (.int n), .d (eP l)], S) := by
    have hs : bor (startE 6 [.d (.int n), .d (eP l)]) = [some (.u (.d (.int n))), some (.u (.d (eP l))), none, none, none, none] := rfl
    rw [ap_sIf, hs]
    have ht : isT .tuple (eP l) = true := rfl
    simp [el, oAll_map, ht, -sp_isT3]
    cases l.all (okT n) <;> simp
  unfold standsB
  unfold m_stands
  cases hp : l.all (okT n) with
  | false =>
    rw [hp] at e1
    exact fn_rt (seq_rt e1)
  | true =>
    rw [hp] at e1
    refine fn_rt (δ1 := [some (.u (.d (.int n))), some (.u (.d (eP l))), none, some (.u (.d (.list ((met l).map eQ)))), none, none]) (seq_to e1 (seq_to (δ1 := [some (.u (.d (.int n))), some (.u (.d (eP l))), none, some (.u (.d (.list ((met l).map eQ)))), none, none]) (S1 := S) ?_ ?_))
    · simp [ev_pairs_met l (by omega)]
    · obtain ⟨k, hk, hki⟩ := lenSet_Q (met l) (by rw [met_len]; omega)
      have hc := cut1 l
      have ez : eLc (itZip (aCons (eVar 1) (aCons (eSl (eVar 1) (oSome (eC (.int 1))) oNo) aNil))) [4, 5] (.tup [4, 5]) tTrue (eOp (cD ltP) (eVar 4) (eVar 5)) [some (.u (.d (.int n))), some (.u (.d (eP l))), none, some (.u (.d (.list ((met l).map eQ)))), none, none] S = some (.ok (.d (.list ((l.zip (l.drop 1)).map fun p => .bool (ltT p.1 p.2)))), S) :=
        lc_map (fun p : T3 × T3 => .tuple [eT p.1, eT p.2]) (l.zip (l.drop 1)) (fun p => .bool (ltT p.1 p.2)) (by
          rw [← pairD_map, ← hc]
          simp [eP]) (by simp [LIM]; omega) (fun p hp => ⟨[(4, eT p.1), (5, eT p.2)], rfl, by simp [setD, ltP_T]⟩)
      have eq : eqP (.int k) (.int (met l).length) = some (decide ((met l).Nodup)) := by
        unfold eqP
        rw [if_pos (by rfl), eqv_int]
        exact congrArg some (decide_eq_decide.mpr (by rw [← hki]; omega))
      simp only [List.drop_one] at ez
      have ha := adj_all l
      simp only [List.drop_one] at ha
      simp [hk, eq, ez, oAll_map, ha]
      cases decide (met l).Nodup <;> simp
end PM
/-! The typed layer: pairs left, open threes, partners. -/
namespace PM
open PySem DL PySem.W
theorem ev_check_plan (n : Nat) (hn : 3 ≤ n ∧ n ≤ 9) (l : List T3) (hl : l.length ≤ 20) (S : Sto) : m_check_plan [.d (.int n), .d (eP l)] S = if standsB n l = true then some (.ok (.d .none), S) else some (.error 2, S) := by
  unfold m_check_plan
  have h := ev_check_players n hn S
  cases hs : standsB n l <;> simp [h, ev_stands n l hl, hs]
theorem ev_is_plan (n : Nat) (hn : 3 ≤ n ∧ n ≤ 9) (l : List T3) (hl : l.length ≤ 20) (S : Sto) : m_is_plan [.d (.int n), .d (eP l)] S = some (.ok (.d (.bool (standsB n l))), S) := by
  unfold m_is_plan
  simp [ev_check_players n hn S, ev_stands n l hl]
/-- range(m, n), and range(n) -/
theorem ints_nat (m k : Nat) : intsD (m : Int) k = ((List.range k).map fun i => m + i).map eI := by
  unfold intsD eI
  rw [List.map_map]
  refine List.map_congr_left fun i _ => ?_
  simp
def upTo (m n : Nat) : List Nat := (List.range (n - m)).map fun i => m + i
theorem ints_upTo (m n : Nat) : intsD (m : Int) ((n : Int) - m).toNat = (upTo m n).map eI := by
  rw [ints_nat]
  unfold upTo
  rw [show ((n : Int) - m).toNat = n - m by omega]
theorem ints_range (n : Nat) : intsD 0 (n : Int).toNat = (List.range n).map eI := by
  have := ints_nat 0 n
  simp at this
  simpa using this
theorem mem_upTo {m n k : Nat} : k ∈ upTo m n ↔ m ≤ k ∧ k < n := by
  unfold upTo
  rw [List.mem_map]
  constructor
  · rintro ⟨i, hi, rfl⟩
    have := List.mem_range.mp hi
    omega
  · intro h
    exact ⟨k - m, List.mem_range.mpr (by omega), by omega⟩
def allPairs (n : Nat) : List P2 := (List.range n).flatMap fun a => (upTo (a + 1) n).map fun b => (a, b)
theorem flat_len {α β : Type} (f : α → List β) (k : Nat) : ∀ l : List α, (∀ x ∈ l, (f x).length ≤ k) → (l.flatMap f).length ≤ k * l.length
  | [], _ => Nat.zero_le _
  | x :: l, h => by
    rw [List.flatMap_cons, List.length_append, List.length_cons, Nat.mul_succ]
    have := flat_len f k l fun y hy => h y (List.mem_cons_of_mem _ hy)
    have := h x List.mem_cons_self
    omega
theorem upTo_len (m n : Nat) : (upTo m n).length = n - m := by simp [upTo]
theorem ev_all_pairs (n : Nat) (hn : n ≤ 100) (S : Sto) : m_all_pairs [.d (.int n)] S = some (.ok (.d (.list ((allPairs n).map eQ))), S) := by
  have e2 : (List.range n).flatMap (fun a => (upTo (a + 1) n).map fun b => eQ (a, b)) = (allPairs n).map eQ := by
    rw [allPairs, List.map_flatMap]
    simp [Function.comp_def]
  have hlen : ((List.range n).flatMap (fun a => (upTo (a + 1) n).map fun b => eQ (a, b))).length ≤ 100 * n := by
    have := flat_len (fun a => (upTo (a + 1) n).map fun b => eQ (a, b)) 100 (List.range n) (fun a ha => by rw [List.length_map, upTo_len]; omega)
    simpa using this
  obtain ⟨c', e⟩ := for_acc (tg := .one 2) (body := sSeq (sExtA 1 (eLc (itR2 (aCons (eOp oAdd (eVar 2) (eC (.int 1))) (aCons (eVar 0) aNil))) [3] (.one 3) tTrue (eTup (aCons (eVar 2) (aCons (eVar 3) aNil))))) sNil) (S := S) (fun acc (c : Option Cell) => [some (.u (.d (.int n))), some (.own acc), c, none]) eI (fun a => (upTo (a + 1) n).map fun b => eQ (a, b)) LIM (List.range n) [] none
    (by simp only [List.length_nil, Nat.zero_add]; exact Nat.le_trans hlen (by simp [LIM]; omega)) (fun acc c a ha hb => by
      have han := List.mem_range.mp ha
      refine ⟨[(2, eI a)], some (.u (.d (eI a))), rfl, ?_⟩
      have el : eLc (itR2 (aCons (eOp oAdd (eVar 2) (eC (.int 1))) (aCons (eVar 0) aNil))) [3] (.one 3) tTrue (eTup (aCons (eVar 2) (aCons (eVar 3) aNil))) [some (.u (.d (.int n))), some (.own acc), some (.u (.d (eI a))), none] S = some (.ok (.d (.list ((upTo (a + 1) n).map fun b => eQ (a, b)))), S) := by
        refine lc_map eI (upTo (a + 1) n) (fun b => eQ (a, b)) ?_ (by rw [upTo_len]; simp [LIM]; omega) (fun b hb => ⟨[(3, eI b)], rfl, ?_⟩)
        · have := ints_upTo (a + 1) n
          simp at this
          simp [eI, this]
          omega
        · simp [setD, eI, eQ]
      simp at hb
      simp [setD, el, hb])
  rw [e2] at e
  unfold m_all_pairs
  refine fn_rt (δ1 := [some (.u (.d (.int n))), some (.own ([] ++ (allPairs n).map eQ)), c', none]) ?_
  refine seq_to (δ1 := [some (.u (.d (.int n))), some (.own []), none, none]) (S1 := S) rfl (seq_to (sFor_of (items := (List.range n).map eI) ?_ e) ?_)
  · have := ints_range n
    simp at this
    simp [this]
    omega
  · cases c' <;> simp
def leftOf (n : Nat) (l : List T3) : List P2 := (allPairs n).filter fun p => !decide (p ∈ met l)
theorem allPairs_len (n : Nat) (hn : n ≤ 100) : (allPairs n).length ≤ 10000 := by
  have := flat_len (fun a => (upTo (a + 1) n).map fun b => (a, b)) 100 (List.range n) (fun a ha => by rw [List.length_map, upTo_len]; omega)
  unfold allPairs
  rw [List.length_range] at this
  omega
theorem ev_left_of (n : Nat) (hn : n ≤ 100) (l : List T3) (hl : l.length ≤ 1000) (S : Sto) : m_left_of [.d (.int n), .d (eP l)] S = some (.ok (.d (.list ((leftOf n l).map eQ))), S) := by
  unfold m_left_of
  refine fn_rt (δ1 := [some (.u (.d (.int n))), some (.u (.d (eP l))), some (.u (.d (.list ((met l).map eQ)))), none]) (seq_to (δ1 := [some (.u (.d (.int n))), some (.u (.d (eP l))), some (.u (.d (.list ((met l).map eQ)))), none]) (S1 := S) ?_ (seq_rt ?_))
  · simp [ev_pairs_met l hl]
  · have el : eLc (itSeq (eCall m_all_pairs 1 (aCons (eVar 0) aNil))) [3] (.one 3) (tOf (eOp (cD notInP) (eVar 3) (eVar 2))) (eVar 3) [some (.u (.d (.int n))), some (.u (.d (eP l))), some (.u (.d (.list ((met l).map eQ)))), none] S = some (.ok (.d (.list ((leftOf n l).map eQ))), S) := by
      refine lc_if eQ (allPairs n) (fun p => !decide (p ∈ met l)) eQ ?_ (Nat.le_trans (allPairs_len n hn) (by decide)) (fun p hp => ⟨[(3, eQ p)], rfl, ?_, fun _ => ?_⟩)
      · simp [ev_all_pairs n hn]
      · simp [setD, notInP_list eqe_Q (met l) p (dok_Q p)]
      · simp [setD]
    simp [el]
theorem eq_nil {α : Type} (e : α → PyData) (l : List α) : eqP (.list (l.map e)) (.list []) = some (decide (l = [])) := by
  unfold eqP
  rw [if_pos (by rw [dok_nil, Bool.or_true])]
  cases l <;> rfl
theorem ne_nil {α : Type} (e : α → PyData) (l : List α) : neP (.list (l.map e)) (.list []) = some (!decide (l = [])) := by
  unfold neP
  rw [if_pos (by rw [dok_nil, Bool.or_true])]
  cases l <;> rfl
def openL (n : Nat) (l : List T3) : List T3 := (allPairs n).flatMap fun p => ((upTo (p.2 + 1) n).map fun c => (p.1, p.2, c)).filter fun t => (prs t).all fun q => decide (q ∈ leftOf n l)
theorem flat_if {α β : Type} (p : β → Bool) (g : α → β) (e : β → PyData) : ∀ l : List α, (l.flatMap fun x => if p (g x) = true then [e (g x)] else []) = ((l.map g).filter p).map e
  | [] => rfl
  | x :: l => by
    rw [List.flatMap_cons, flat_if p g e l, List.map_cons]
    cases h : p (g x) <;> simp [h]
theorem allPairs_len9 (n : Nat) (hn : n ≤ 9) : (allPairs n).length ≤ 81 := by
  have := flat_len (fun a => (upTo (a + 1) n).map fun b => (a, b)) 9 (List.range n) (fun a ha => by rw [List.length_map, upTo_len]; omega)
  unfold allPairs
  rw [List.length_range] at this
  omega
theorem ev_open_list (n : Nat) (hn : n ≤ 9) (l : List T3) (hl : l.length ≤ 1000) (S : Sto) : m_open_list [.d (.int n), .d (eP l)] S = some (.ok (.d (.list ((openL n l).map eT))), S) := by
  generalize hL : leftOf n l = L
  let E : List PyData → (Option Cell × Option Cell × Option Cell) → En := fun acc c => [some (.u (.d (.int n))), some (.u (.d (eP l))), some (.u (.d (.list (L.map eQ)))), some (.own acc), c.1, c.2.1, c.2.2, none]
  have hpr : ∀ (t : T3) (acc : List PyData), tOf (eBc oAll (aCons (eLc (itSeq (eCall m_pairs_of 1 (aCons (eTup (aCons (eVar 4) (aCons (eVar 5) (aCons (eVar 6) aNil)))) aNil))) [7] (.one 7) tTrue (eOp (cD inP) (eVar 7) (eVar 2))) aNil)) (bor (E acc (some (.u (.d (eI t.1))), some (.u (.d (eI t.2.1))), some (.u (.d (eI t.2.2)))))) S = some (.ok ((prs t).all fun q => decide (q ∈ L)), S) := by
    intro t acc
    have el : eLc (itSeq (eCall m_pairs_of 1 (aCons (eTup (aCons (eVar 4) (aCons (eVar 5) (aCons (eVar 6) aNil)))) aNil))) [7] (.one 7) tTrue (eOp (cD inP) (eVar 7) (eVar 2)) (bor (E acc (some (.u (.d (eI t.1))), some (.u (.d (eI t.2.1))), some (.u (.d (eI t.2.2)))))) S = some (.ok (.d (.list ((prs t).map fun q => .bool (decide (q ∈ L))))), S) := by
      refine lc_map eQ (prs t) (fun q => .bool (decide (q ∈ L))) ?_ (by simp [prs, LIM]) (fun q hq => ⟨[(7, eQ q)], rfl, ?_⟩)
      · have := ev_pairs_of t S
        unfold eT at this
        simp [E, eI, this]
      · simp [E, setD, inP_list eqe_Q L q (dok_Q q)]
    simp [el, oAll_map, -sp_bor]
  have inner : ∀ (a b : Nat), b < n → ∀ (acc : List PyData) (c : Option Cell × Option Cell × Option Cell), acc.length + 100 ≤ LIM → ∃ c', sSeq (sFor (itR2 (aCons (eOp oAdd (eVar 5) (eC (.int 1))) (aCons (eVar 0) aNil))) (.one 6) (sSeq (sIf (tOf (eBc oAll (aCons (eLc (itSeq (eCall m_pairs_of 1 (aCons (eTup (aCons (eVar 4) (aCons (eVar 5) (aCons (eVar 6) aNil)))) aNil))) [7] (.one 7) tTrue (eOp (cD inP) (eVar 7) (eVar 2))) aNil))) (sSeq (sApp 3 (eTup (aCons (eVar 4) (aCons (eVar 5) (aCons (eVar 6) aNil))))) sNil) sNil) sNil)) sNil (E acc (some (.u (.d (eI a))), some (.u (.d (eI b))), c.2.2)) S = some (.nx, E (acc ++ (((upTo (b + 1) n).map fun c => (a, b, c)).filter fun t => (prs t).all fun q => decide (q ∈ L)).map eT) c', S) := by
    intro a b hbn acc c hacc
    have hlen : ((upTo (b + 1) n).flatMap fun c => if ((prs (a, b, c)).all fun q => decide (q ∈ L)) = true then [eT (a, b, c)] else []).length ≤ 100 := by
      rw [flat_if (fun t => (prs t).all fun q => decide (q ∈ L)) (fun c => (a, b, c)) eT, List.length_map]
      refine Nat.le_trans (List.length_filter_le _ _) ?_
      rw [List.length_map, upTo_len]
      omega
    obtain ⟨c', e⟩ := for_acc (tg := .one 6) (S := S) (body := sSeq (sIf (tOf (eBc oAll (aCons (eLc (itSeq (eCall m_pairs_of 1 (aCons (eTup (aCons (eVar 4) (aCons (eVar 5) (aCons (eVar 6) aNil)))) aNil))) [7] (.one 7) tTrue (eOp (cD inP) (eVar 7) (eVar 2))) aNil))) (sSeq (sApp 3 (eTup (aCons (eVar 4) (aCons (eVar 5) (aCons (eVar 6) aNil))))) sNil) sNil) sNil)
      (fun acc (c : Option Cell) => E acc (some (.u (.d (eI a))), some (.u (.d (eI b))), c)) eI (fun c => if ((prs (a, b, c)).all fun q => decide (q ∈ L)) = true then [eT (a, b, c)] else []) LIM (upTo (b + 1) n) acc c.2.2 (by omega) (fun acc c k hk hb => by
        refine ⟨[(6, eI k)], some (.u (.d (eI k))), rfl, ?_⟩
        have := hpr (a, b, k) acc
        rw [ap_sSeq, ap_sIf]
        have hsd : setD (E acc (some (.u (.d (eI a))), some (.u (.d (eI b))), c)) [(6, eI k)] = E acc (some (.u (.d (eI a))), some (.u (.d (eI b))), some (.u (.d (eI k)))) := rfl
        rw [hsd, this]
        cases hp : (prs (a, b, k)).all fun q => decide (q ∈ L) with
        | false => simp [hp]
        | true =>
          rw [hp] at hb
          simp at hb
          have hb' : acc.length < LIM := by omega
          simp [E, eI, eT, hb', hp])
    rw [flat_if (fun t => (prs t).all fun q => decide (q ∈ L)) (fun c => (a, b, c)) eT] at e
    refine ⟨(some (.u (.d (eI a))), some (.u (.d (eI b))), c'), ?_⟩
    refine seq_to (sFor_of (items := (upTo (b + 1) n).map eI) ?_ e) rfl
    have := ints_upTo (b + 1) n
    simp at this
    simp [E, eI, this]
    omega
  have hmem : ∀ p ∈ allPairs n, p.2 < n := fun p hp => by
    unfold allPairs at hp
    obtain ⟨a, _, h⟩ := List.mem_flatMap.mp hp
    obtain ⟨b, hb, rfl⟩ := List.mem_map.mp h
    exact (mem_upTo.mp hb).2
  have hf : ∀ p : P2, ((((upTo (p.2 + 1) n).map fun c => (p.1, p.2, c)).filter fun t => (prs t).all fun q => decide (q ∈ L)).map eT).length ≤ 100 := fun p => by
    rw [List.length_map]
    refine Nat.le_trans (List.length_filter_le _ _) ?_
    rw [List.length_map, upTo_len]
    omega
  have hlen := flat_len (fun p : P2 => (((upTo (p.2 + 1) n).map fun c => (p.1, p.2, c)).filter fun t => (prs t).all fun q => decide (q ∈ L)).map eT) 100 (allPairs n) (fun p _ => hf p)
  have hlen9 := allPairs_len9 n hn
  have hL9 : LIM = 1000000 := rfl
  obtain ⟨c', e⟩ := for_acc (tg := .tup [4, 5]) (S := S) (body := sSeq (sFor (itR2 (aCons (eOp oAdd (eVar 5) (eC (.int 1))) (aCons (eVar 0) aNil))) (.one 6) (sSeq (sIf (tOf (eBc oAll (aCons (eLc (itSeq (eCall m_pairs_of 1 (aCons (eTup (aCons (eVar 4) (aCons (eVar 5) (aCons (eVar 6) aNil)))) aNil))) [7] (.one 7) tTrue (eOp (cD inP) (eVar 7) (eVar 2))) aNil))) (sSeq (sApp 3 (eTup (aCons (eVar 4) (aCons (eVar 5) (aCons (eVar 6) aNil))))) sNil) sNil) sNil)) sNil)
    E eQ (fun p => (((upTo (p.2 + 1) n).map fun c => (p.1, p.2, c)).filter fun t => (prs t).all fun q => decide (q ∈ L)).map eT) (LIM - 100) (allPairs n) [] (none, none, none) (by simp only [List.length_nil]; omega) (fun acc c p hp hb => by
      obtain ⟨c2, e2⟩ := inner p.1 p.2 (hmem p hp) acc c (by omega)
      exact ⟨[(4, eI p.1), (5, eI p.2)], c2, rfl, e2⟩)
  have e2 : (allPairs n).flatMap (fun p => (((upTo (p.2 + 1) n).map fun c => (p.1, p.2, c)).filter fun t => (prs t).all fun q => decide (q ∈ L)).map eT) = (openL n l).map eT := by
    rw [openL, List.map_flatMap, hL]
  rw [e2] at e
  unfold m_open_list
  obtain ⟨c1, c2, c3⟩ := c'
  refine fn_rt (δ1 := E ([] ++ (openL n l).map eT) (c1, c2, c3)) ?_
  refine seq_to (δ1 := [some (.u (.d (.int n))), some (.u (.d (eP l))), some (.u (.d (.list (L.map eQ)))), none, none, none, none, none]) (S1 := S) ?_ (seq_to (δ1 := E [] (none, none, none)) (S1 := S) rfl (seq_to (sFor_of (items := (allPairs n).map eQ) ?_ e) ?_))
  · simp [ev_left_of n (by omega) l hl, hL]
  · simp [E, ev_all_pairs n (by omega)]
  · cases c1 <;> cases c2 <;> cases c3 <;> simp [E]
theorem ev_open_threes (n : Nat) (hn : 3 ≤ n ∧ n ≤ 9) (l : List T3) (hl : l.length ≤ 20) (hs : standsB n l = true) (S : Sto) : m_open_threes [.d (.int n), .d (eP l)] S = some (.ok (.d (.list ((openL n l).map eT))), S) := by
  unfold m_open_threes
  simp [ev_check_plan n hn l hl, hs, ev_open_list n (by omega) l (by omega)]
def partnersL (n : Nat) (l : List T3) (p : Nat) : List Nat := (List.range n).filter fun x => decide ((min x p, max x p) ∈ met l)
end PM
/-! The typed layer: full plans, found by trying all threes for the first pair. -/
namespace PM
open PySem DL PySem.W
def leN (a b : Nat) : Bool := decide (a ≤ b)
def leT (a b : T3) : Bool := !ltT b a
def sort3 (a b c : Nat) : T3 := match isort leN [a, b, c] with
  | [x, y, z] => (x, y, z)
  | _ => (0, 0, 0)
def sortT (l : List T3) : List T3 := isort leT l
def qmem (q : P2) (l : List P2) : Bool := l.any fun p => Nat.beq p.1 q.1 && Nat.beq p.2 q.2
/-- the threes that may be put in for the first pair -/
def kids (n : Nat) : List P2 → List T3
  | [] => []
  | (a, b) :: r => (List.range n).flatMap fun c => if ((!Nat.beq c a && !Nat.beq c b) && (prs (sort3 a b c)).all fun q => qmem q ((a, b) :: r)) = true then [sort3 a b c] else []
def fp (n : Nat) : Nat → List T3 → List P2 → List (List T3)
  | _, here, [] => [here]
  | 0, _, _ :: _ => []
  | k + 1, here, p :: r => (kids n (p :: r)).reverse.flatMap fun t => fp n k (here ++ [t]) ((p :: r).filter fun q => !qmem q (prs t))
/-! ### pairs -/
theorem mem_met {p : P2} {l : List T3} : p ∈ met l ↔ ∃ t ∈ l, p ∈ prs t := by
  unfold met
  exact List.mem_flatMap
theorem met_append (l m : List T3) : met (l ++ m) = met l ++ met m := by
  unfold met
  exact List.flatMap_append
theorem mem_allPairs {n : Nat} {p : P2} : p ∈ allPairs n ↔ p.1 < p.2 ∧ p.2 < n := by
  unfold allPairs
  rw [List.mem_flatMap]
  constructor
  · rintro ⟨a, ha, h⟩
    obtain ⟨b, hb, rfl⟩ := List.mem_map.mp h
    have := mem_upTo.mp hb
    exact ⟨by simp only; omega, this.2⟩
  · intro h
    exact ⟨p.1, List.mem_range.mpr (by omega), List.mem_map.mpr ⟨p.2, mem_upTo.mpr ⟨by omega, h.2⟩, rfl⟩⟩
theorem mem_leftOf {n : Nat} {l : List T3} {p : P2} : p ∈ leftOf n l ↔ p ∈ allPairs n ∧ p ∉ met l := by
  unfold leftOf
  rw [List.mem_filter, Bool.not_eq_true', decide_eq_false_iff_not]
theorem okT_iff {n : Nat} {t : T3} : okT n t = true ↔ t.1 < t.2.1 ∧ t.2.1 < t.2.2 ∧ t.2.2 < n := by
  unfold okT
  exact decide_eq_true_iff
theorem mem_prs {t : T3} {p : P2} : p ∈ prs t ↔ p = (t.1, t.2.1) ∨ p = (t.1, t.2.2) ∨ p = (t.2.1, t.2.2) := by
  unfold prs
  simp
theorem prs_ok {n : Nat} {t : T3} {p : P2} (h : okT n t = true) (hp : p ∈ prs t) : p ∈ allPairs n := by
  have := okT_iff.mp h
  rw [mem_allPairs]
  rcases mem_prs.mp hp with e | e | e <;> subst e <;> simp only <;> omega
theorem prs_nodup {n : Nat} {t : T3} (h : okT n t = true) : (prs t).Nodup := by
  have := okT_iff.mp h
  unfold prs
  simp only [List.nodup_cons, List.mem_cons, List.not_mem_nil, Prod.mk.injEq, or_false, not_or, not_and, List.nodup_nil, and_true, not_false_eq_true]
  omega
structure Good (n : Nat) (h : List T3) : Prop where
  ok : ∀ t ∈ h, okT n t = true
  nd : (met h).Nodup
theorem share : ∀ {l : List T3} {s t : T3} {q : P2}, (met l).Nodup → s ∈ l → t ∈ l → q ∈ prs s → q ∈ prs t → s = t
  | [], _, _, _, _, h, _, _, _ => nomatch h
  | x :: l, s, t, q, nd, hs, ht, qs, qt => by
    have e : met (x :: l) = prs x ++ met l := by simp [met]
    rw [e, List.nodup_append] at nd
    obtain ⟨_, n2, n3⟩ := nd
    rcases List.mem_cons.mp hs with h1 | h1 <;> rcases List.mem_cons.mp ht with h2 | h2
    · rw [h1, h2]
    · subst h1
      exact absurd rfl (n3 q qs q (mem_met.mpr ⟨t, h2, qt⟩))
    · subst h2
      exact absurd rfl (n3 q qt q (mem_met.mpr ⟨s, h1, qs⟩))
    · exact share n2 h1 h2 qs qt
theorem good_nodup : ∀ {n : Nat} {l : List T3}, Good n l → l.Nodup
  | _, [], _ => List.nodup_nil
  | n, x :: l, g => by
    have e : met (x :: l) = prs x ++ met l := by simp [met]
    have nd := g.nd
    rw [e, List.nodup_append] at nd
    refine List.nodup_cons.mpr ⟨fun hx => ?_, good_nodup ⟨fun t ht => g.ok t (List.mem_cons_of_mem _ ht), nd.2.1⟩⟩
    exact nd.2.2 (x.1, x.2.1) (by simp [prs]) (x.1, x.2.1) (mem_met.mpr ⟨x, hx, by simp [prs]⟩) rfl
theorem good_snoc {n : Nat} {l : List T3} {t : T3} (g : Good n l) (ht : okT n t = true) (hd : ∀ q ∈ prs t, q ∉ met l) : Good n (l ++ [t]) := by
  refine ⟨fun s hs => ?_, ?_⟩
  · rcases List.mem_append.mp hs with h | h
    · exact g.ok s h
    · rw [List.mem_singleton.mp h]; exact ht
  · rw [met_append]
    have : met [t] = prs t := by simp [met]
    rw [this, List.nodup_append]
    exact ⟨g.nd, prs_nodup ht, fun a ha b hb e => hd b hb (e ▸ ha)⟩
/-! ### three players -/
end PM
/-! The typed layer: the search finds every full plan, once. -/
namespace PM
open PySem DL PySem.W
theorem pw_flat {α β : Type} {R : β → β → Prop} {f : α → List β} : ∀ l : List α, (∀ x ∈ l, (f x).Pairwise R) → l.Pairwise (fun x y => ∀ a ∈ f x, ∀ b ∈ f y, R a b) → (l.flatMap f).Pairwise R
  | [], _, _ => List.Pairwise.nil
  | x :: l, h1, h2 => by
    rw [List.pairwise_cons] at h2
    rw [List.flatMap_cons, List.pairwise_append]
    refine ⟨h1 x List.mem_cons_self, pw_flat l (fun y hy => h1 y (List.mem_cons_of_mem _ hy)) h2.2, fun a ha b hb => ?_⟩
    obtain ⟨y, hy, hb⟩ := List.mem_flatMap.mp hb
    exact h2.1 y hy a ha b hb
end PM
/-! The typed layer: sorted plans; the full plans that contain a plan. -/
namespace PM
open PySem DL PySem.W
section
variable {α : Type} {le : α → α → Bool}
theorem ins_perm (a : α) : ∀ l : List α, (ins le a l).Perm (a :: l)
  | [] => List.Perm.refl _
  | b :: l => by
    unfold ins
    split
    · exact List.Perm.refl _
    · exact ((ins_perm a l).cons b).trans (List.Perm.swap a b l)
theorem isort_perm : ∀ l : List α, (isort le l).Perm l
  | [] => List.Perm.refl _
  | a :: l => by
    show (ins le a (isort le l)).Perm (a :: l)
    exact (ins_perm a _).trans ((isort_perm l).cons a)
theorem isort_pw (tr : ∀ a b c, le a b = true → le b c = true → le a c = true) (to : ∀ a b, (le a b || le b a) = true) (l : List α) : (isort le l).Pairwise fun a b => le a b = true := by
  rw [← isort_merge tr to]
  exact List.pairwise_mergeSort tr to l
theorem isort_eq (tr : ∀ a b c, le a b = true → le b c = true → le a c = true) (to : ∀ a b, (le a b || le b a) = true) (as : ∀ a b, le a b = true → le b a = true → a = b) {l m : List α} (h : l.Perm m) (hm : m.Pairwise fun a b => le a b = true) : isort le l = m :=
  List.Perm.eq_of_pairwise (le := fun a b => le a b = true) (fun a b _ _ => as a b) (isort_pw tr to l) hm ((isort_perm l).trans h)
theorem isort_map {β : Type} {le' : β → β → Bool} (e : α → β) (h : ∀ a b, le' (e a) (e b) = le a b) : ∀ l : List α, isort le' (l.map e) = (isort le l).map e
  | [] => rfl
  | a :: l => by
    show ins le' (e a) (isort le' (l.map e)) = (ins le a (isort le l)).map e
    rw [isort_map e h l]
    have key : ∀ m : List α, ins le' (e a) (m.map e) = (ins le a m).map e := by
      intro m
      induction m with
      | nil => rfl
      | cons b m ih =>
        show (if le' (e a) (e b) = true then e a :: e b :: m.map e else e b :: ins le' (e a) (m.map e)) = (if le a b = true then a :: b :: m else b :: ins le a m).map e
        rw [h, ih]
        split <;> rfl
    exact key _
end
theorem ltT_iff {s t : T3} : ltT s t = true ↔ s.1 < t.1 ∨ (s.1 = t.1 ∧ (s.2.1 < t.2.1 ∨ (s.2.1 = t.2.1 ∧ s.2.2 < t.2.2))) := by
  unfold ltT
  exact decide_eq_true_iff
theorem leT_iff {s t : T3} : leT s t = true ↔ ¬ ltT t s = true := by
  unfold leT
  cases ltT t s <;> simp
theorem leT_trans (a b c : T3) (h1 : leT a b = true) (h2 : leT b c = true) : leT a c = true := by
  rw [leT_iff, ltT_iff] at *
  omega
theorem leT_total (a b : T3) : (leT a b || leT b a) = true := by
  rw [Bool.or_eq_true, leT_iff, leT_iff, ltT_iff, ltT_iff]
  omega
theorem leT_anti (a b : T3) (h1 : leT a b = true) (h2 : leT b a = true) : a = b := by
  rw [leT_iff, ltT_iff] at *
  obtain ⟨a1, a2, a3⟩ := a
  obtain ⟨b1, b2, b3⟩ := b
  simp only [Prod.mk.injEq] at *
  omega
theorem leT_of_lt {a b : T3} (h : ltT a b = true) : leT a b = true := by
  rw [leT_iff, ltT_iff]
  rw [ltT_iff] at h
  omega
theorem ltT_of {a b : T3} (h : leT a b = true) (hne : a ≠ b) : ltT a b = true := by
  cases h2 : ltT a b with
  | true => rfl
  | false =>
    have : leT b a = true := by rw [leT_iff, h2]; exact Bool.false_ne_true
    exact absurd (leT_anti a b h this) hne
theorem ltT_ne {a b : T3} (h : ltT a b = true) : a ≠ b := fun e => by
  subst e
  rw [ltT_iff] at h
  omega
theorem ltT_trans {a b c : T3} (h1 : ltT a b = true) (h2 : ltT b c = true) : ltT a c = true := by
  rw [ltT_iff] at *
  omega
def Up (l : List T3) : Prop := l.Pairwise fun a b => ltT a b = true
theorem adj_up : ∀ {l : List T3}, adj l = true ↔ Up l
  | [] => ⟨fun _ => List.Pairwise.nil, fun _ => rfl⟩
  | [_] => ⟨fun _ => List.pairwise_singleton _ _, fun _ => rfl⟩
  | a :: b :: l => by
    have ih := adj_up (l := b :: l)
    show (ltT a b && adj (b :: l)) = true ↔ _
    unfold Up at *
    rw [Bool.and_eq_true, List.pairwise_cons]
    constructor
    · rintro ⟨h1, h2⟩
      have h3 := ih.mp h2
      refine ⟨fun c hc => ?_, h3⟩
      rcases List.mem_cons.mp hc with rfl | hc
      · exact h1
      · exact ltT_trans h1 ((List.pairwise_cons.mp h3).1 c hc)
    · rintro ⟨h1, h2⟩
      exact ⟨h1 b List.mem_cons_self, ih.mpr h2⟩
theorem stands_iff {n : Nat} {l : List T3} : standsB n l = true ↔ Good n l ∧ Up l := by
  unfold standsB
  rw [Bool.and_eq_true, Bool.and_eq_true, adj_up, decide_eq_true_iff, List.all_eq_true]
  exact ⟨fun ⟨a, b, c⟩ => ⟨⟨a, b⟩, c⟩, fun ⟨⟨a, b⟩, c⟩ => ⟨a, b, c⟩⟩
theorem sortT_perm (l : List T3) : (sortT l).Perm l := isort_perm l
theorem sortT_mem {l : List T3} {t : T3} : t ∈ sortT l ↔ t ∈ l := (sortT_perm l).mem_iff
theorem sortT_up {l : List T3} (nd : l.Nodup) : Up (sortT l) := by
  have h1 := isort_pw leT_trans leT_total l
  have h2 : (sortT l).Nodup := (sortT_perm l).symm.nodup nd
  exact (List.Pairwise.and h1 h2).imp fun ⟨a, b⟩ => ltT_of a b
theorem Up.nodup {l : List T3} (h : Up l) : l.Nodup := h.imp fun h => ltT_ne h
theorem sortT_eq {l m : List T3} (h : l.Perm m) (hm : Up m) : sortT l = m := isort_eq leT_trans leT_total leT_anti h (hm.imp fun h => leT_of_lt h)
theorem met_perm {l m : List T3} (h : l.Perm m) : (met l).Perm (met m) := by
  unfold met
  exact h.flatMap_right _
theorem Good.perm {n : Nat} {l m : List T3} (h : l.Perm m) (g : Good n l) : Good n m := ⟨fun t ht => g.ok t (h.mem_iff.mpr ht), (met_perm h).nodup g.nd⟩
theorem left_same {n : Nat} {l m : List T3} (h : ∀ t, t ∈ l ↔ t ∈ m) : leftOf n l = leftOf n m := by
  unfold leftOf
  refine List.filter_congr fun p _ => ?_
  have : p ∈ met l ↔ p ∈ met m := by
    rw [mem_met, mem_met]
    exact ⟨fun ⟨t, a, b⟩ => ⟨t, (h t).mp a, b⟩, fun ⟨t, a, b⟩ => ⟨t, (h t).mpr a, b⟩⟩
  by_cases h1 : p ∈ met l
  · simp [h1, this.mp h1]
  · have h2 : p ∉ met m := fun z => h1 (this.mpr z)
    simp [h1, h2]
theorem stands_sort {n : Nat} {l : List T3} (g : Good n l) : standsB n (sortT l) = true := stands_iff.mpr ⟨g.perm (sortT_perm l).symm, sortT_up (good_nodup g)⟩
theorem good_nil (n : Nat) : Good n [] := ⟨fun _ h => (nomatch h), List.nodup_nil⟩
end PM
/-! The typed layer: names. -/
namespace PM
open PySem DL PySem.W
theorem leD_T (a b : T3) : leD (eT a) (eT b) = leT a b := by
  unfold leD leT
  rw [dataLt_T]
theorem sortOk_T (l : List T3) (h : l.length ≤ LIM) : sortOk (l.map eT) = true := by
  unfold sortOk
  simp only [List.all_map, List.length_map, Bool.and_eq_true, List.all_eq_true, Function.comp_apply, decide_eq_true_eq, Bool.or_eq_true]
  exact ⟨⟨⟨fun a _ b _ => alike_T a b, .inl fun a _ => rfl⟩, fun a _ => dok_T a⟩, h⟩
theorem oSort_T (l : List T3) (h : l.length ≤ LIM) : oSort [.d (.list (l.map eT))] = some (.d (.list ((sortT l).map eT))) := by
  show (if sortOk (l.map eT) = true then some (U.d (PyData.list (srtD (l.map eT)))) else none) = _
  rw [if_pos (sortOk_T l h), srtD, isort_map eT leD_T]
  rfl
theorem oSort_Tt (l : List T3) (h : l.length ≤ LIM) : oSort [.d (.tuple (l.map eT))] = some (.d (.list ((sortT l).map eT))) := by
  show (if sortOk (l.map eT) = true then some (U.d (PyData.list (srtD (l.map eT)))) else none) = _
  rw [if_pos (sortOk_T l h), srtD, isort_map eT leD_T]
  rfl
def nm (names : List Nat) (t : T3) : T3 := sort3 (names.getD t.1 0) (names.getD t.2.1 0) (names.getD t.2.2 0)
theorem atI_nat {α : Type} (l : List α) (i : Nat) (h : i < l.length) : L2.atI l (i : Int) = some l[i] := by
  unfold L2.atI L2.ixN
  simp [h]
end PM
/-! The typed layer: other names keep plans and full plans. -/
namespace PM
open PySem DL PySem.W
/-- names of n players -/
structure Names (n : Nat) (names : List Nat) : Prop where
  perm : names.Perm (List.range n)
theorem Names.len {n : Nat} {names : List Nat} (h : Names n names) : names.length = n := by
  rw [h.perm.length_eq, List.length_range]
/-- the pairs of three players in any order -/
def pr2 (a b : Nat) : P2 := (min a b, max a b)
theorem pr2_lt {a b : Nat} (h : a < b) : pr2 a b = (a, b) := by unfold pr2; rw [Nat.min_eq_left (by omega), Nat.max_eq_right (by omega)]
end PM
/-! The typed layer: drawn names, drawn full plans. -/
namespace PM
open PySem DL PySem.W
theorem at_last {α : Type} (l : List α) (x : α) : L2.atI (l ++ [x]) (-1) = some x := by
  unfold L2.atI L2.ixN
  rw [if_neg (by omega), if_pos (by rw [List.length_append, List.length_singleton]; omega)]
  show (l ++ [x])[(-1 + ((l ++ [x]).length : Int)).toNat]? = some x
  rw [show (-1 + ((l ++ [x]).length : Int)).toNat = l.length by rw [List.length_append, List.length_singleton]; omega]
  simp
end PM
/-! The typed layer: drawn full plans. -/
namespace PM
open PySem DL PySem.W
end PM
/-! The typed layer: small words. -/
namespace PM
open PySem DL PySem.W
def memT (k : Nat) (t : T3) : Bool := Nat.beq t.1 k || (Nat.beq t.2.1 k || Nat.beq t.2.2 k)
theorem memT_any (k : Nat) (t : T3) : ([.int (t.1 : Int), .int (t.2.1 : Int), .int (t.2.2 : Int)] : List PyData).any (fun y => PyData.eqv y (.int (k : Int))) = memT k t := by
  unfold memT
  simp only [List.any_cons, List.any_nil, Bool.or_false, eqv_int]
  have h : ∀ a : Nat, decide ((a : Int) = k) = Nat.beq a k := fun a => by
    cases h : Nat.beq a k with
    | true => exact decide_eq_true (by rw [Nat.eq_of_beq_eq_true h])
    | false => exact decide_eq_false (by have := Nat.ne_of_beq_eq_false h; omega)
  rw [h, h, h]
theorem inP_T (k : Nat) (t : T3) : inP (.int (k : Int)) (eT t) = some (memT k t) := by
  unfold eT
  rw [inP_t, if_pos (dok_I _), memT_any]
theorem depth_all {α : Type} (e : α → PyData) (k : Nat) (h : ∀ a, (e a).depth ≤ k) : ∀ l : List α, PyData.depthAll (l.map e) ≤ k
  | [] => by
    rw [List.map_nil, PyData.depthAll]
    exact Nat.zero_le _
  | a :: l => by
    rw [List.map_cons, PyData.depthAll]
    exact Nat.max_le.mpr ⟨h a, depth_all e k h l⟩
theorem depth_T (t : T3) : (eT t).depth ≤ 1 := by simp [eT, PyData.depth, PyData.depthAll]
theorem depth_P (l : List T3) : (eP l).depth ≤ 2 := by
  unfold eP
  rw [PyData.depth]
  have := depth_all eT 1 depth_T l
  omega
theorem dok_P (l : List T3) : dOk (eP l) = true := decide_eq_true (Nat.le_trans (depth_P l) (by decide))
theorem dok_list {α : Type} (e : α → PyData) (k : Nat) (hk : k ≤ 90) (h : ∀ a, (e a).depth ≤ k) (l : List α) : dOk (.list (l.map e)) = true := by
  refine decide_eq_true ?_
  rw [PyData.depth]
  have := depth_all e k h l
  omega
theorem neP_list {α : Type} [DecidableEq α] {e : α → PyData} (he : EqE e) (k : Nat) (hk : k ≤ 90) (h : ∀ a, (e a).depth ≤ k) (l m : List α) : neP (.list (l.map e)) (.list (m.map e)) = some (!decide (l = m)) := by
  unfold neP
  rw [if_pos (by rw [dok_list e k hk h]; rfl), eqe_list he]
theorem neP_P (l m : List T3) : neP (eP l) (eP m) = some (!decide (l = m)) := by
  unfold neP
  rw [if_pos (by rw [dok_P]; rfl), eqe_P]
def gN (n : Nat) : Nat := [1, 1, 2, 4, 7, 8, 12].getD (n - 3) 0
theorem ev_greatest (n : Nat) (hn : 3 ≤ n ∧ n ≤ 9) (S : Sto) : m_greatest [.d (.int n)] S = some (.ok (.d (.int (gN n : Nat))), S) := by
  have h : n = 3 ∨ n = 4 ∨ n = 5 ∨ n = 6 ∨ n = 7 ∨ n = 8 ∨ n = 9 := by omega
  rcases h with rfl | rfl | rfl | rfl | rfl | rfl | rfl <;> rfl
end PM
/-! All full plans, searched with numbers. -/
namespace PM
open PySem DL PySem.W
theorem full_len {n : Nat} (hn : n ≤ 9) {p : List T3} (g : Good n p) : p.length ≤ 20 := by
  have h := nodup_len g.nd (m := allPairs n) fun q hq => by
    obtain ⟨t, ht, hq⟩ := mem_met.mp hq
    exact prs_ok (g.ok t ht) hq
  have h2 : (allPairs n).length ≤ 36 := by
    have : ∀ n ≤ 9, (allPairs n).length ≤ 36 := by decide +kernel
    exact this n hn
  rw [met_len] at h
  omega
end PM
/-! The full plans for nine players. Printed by a program. -/
namespace PM
end PM
/-! The same computed faster. -/
namespace PM
open PySem DL PySem.W
def okF (n : Nat) (t : T3) : Bool := Nat.blt t.1 t.2.1 && (Nat.blt t.2.1 t.2.2 && Nat.blt t.2.2 n)
end PM
/-! The search of full plans, walked. -/
namespace PM
open PySem DL PySem.W
end PM
/-! The search of full plans, walked to its end. -/
namespace PM
open PySem DL PySem.W
end PM
/-! The search of full plans: what it returns. -/
namespace PM
open PySem DL PySem.W
end PM
/-! The typed layer: renamed. -/
namespace PM
open PySem DL PySem.W
end PM
/-! Other names do not change how many full plans contain a plan. -/
namespace PM
open PySem DL PySem.W
end PM
/-! All threes; open threes; counting in two ways. -/
namespace PM
open PySem DL PySem.W
def threesL (n : Nat) : List T3 := (allPairs n).flatMap fun p => (upTo (p.2 + 1) n).map fun c => (p.1, p.2, c)
theorem filter_flat {α β : Type} (p : β → Bool) (f : α → List β) : ∀ l : List α, (l.flatMap f).filter p = l.flatMap fun x => (f x).filter p
  | [] => rfl
  | x :: l => by rw [List.flatMap_cons, List.flatMap_cons, List.filter_append, filter_flat p f l]
theorem openL_eq (n : Nat) (l : List T3) : openL n l = (threesL n).filter fun t => (prs t).all fun q => decide (q ∈ leftOf n l) := by
  unfold openL threesL
  rw [filter_flat]
theorem mem_threes {n : Nat} {t : T3} : t ∈ threesL n ↔ okT n t = true := by
  obtain ⟨a, b, c⟩ := t
  unfold threesL
  rw [okT_iff]
  simp only [List.mem_flatMap, List.mem_map, mem_upTo, mem_allPairs, Prod.exists, Prod.mk.injEq]
  constructor
  · rintro ⟨x, y, ⟨h1, h2⟩, z, ⟨h3, h4⟩, rfl, rfl, rfl⟩
    omega
  · rintro ⟨h1, h2, h3⟩
    exact ⟨a, b, ⟨h1, by omega⟩, c, ⟨by omega, h3⟩, rfl, rfl, rfl⟩
theorem mem_openL {n : Nat} {l : List T3} {t : T3} : t ∈ openL n l ↔ okT n t = true ∧ ∀ q ∈ prs t, q ∈ leftOf n l := by
  rw [openL_eq, List.mem_filter, mem_threes, List.all_eq_true]
  simp only [decide_eq_true_eq]
theorem open_good {n : Nat} {l : List T3} {t : T3} (g : Good n l) (h : t ∈ openL n l) : Good n (l ++ [t]) := by
  obtain ⟨h1, h2⟩ := mem_openL.mp h
  exact good_snoc g h1 fun q hq => (mem_leftOf.mp (h2 q hq)).2
theorem sum_add {α : Type} (f g : α → Nat) : ∀ l : List α, (l.map fun x => f x + g x).sum = (l.map f).sum + (l.map g).sum
  | [] => rfl
  | x :: l => by
    simp only [List.map_cons, List.sum_cons, sum_add f g l]
    omega
theorem sum_if {α : Type} (p : α → Bool) : ∀ l : List α, (l.map fun x => if p x = true then 1 else 0).sum = (l.filter p).length
  | [] => rfl
  | x :: l => by
    rw [List.map_cons, List.sum_cons, sum_if p l]
    cases h : p x with
    | true => rw [if_pos rfl, List.filter_cons_of_pos h, List.length_cons]; omega
    | false => rw [if_neg (by decide), List.filter_cons_of_neg (by rw [h]; decide)]; omega
theorem memT_iff {k : Nat} {t : T3} : memT k t = true ↔ k = t.1 ∨ k = t.2.1 ∨ k = t.2.2 := by
  unfold memT
  rw [Bool.or_eq_true, Bool.or_eq_true, Nat.beq_eq, Nat.beq_eq, Nat.beq_eq]
  omega
/-- a pair of a three: both are players of it -/
theorem pair_mem {n : Nat} {t : T3} (ht : okT n t = true) {a b : Nat} (hab : a ≠ b) : pr2 a b ∈ prs t ↔ memT a t = true ∧ memT b t = true := by
  have h := okT_iff.mp ht
  obtain ⟨x, y, z⟩ := t
  rw [mem_prs, memT_iff, memT_iff]
  simp only at h
  unfold pr2
  simp only [Prod.mk.injEq]
  omega
end PM
/-! The typed layer: drawn plans, clashes, unmet pairs, errors caught. -/
namespace PM
open PySem DL PySem.W
/-! ### errors caught -/
theorem try_rt {i : Nat} {body : SemS} {m : SemF} {δ δ1 : En} {S S1 : Sto} {u : U} (h : body δ S = some (.rt u, δ1, S1)) : sTry i body m δ S = some (.rt u, δ1, S1) := by
  rw [ap_sTry, h]
/-- a call within try, returned -/
theorem ask_ok {i n : Nat} {f : SemE} {m : SemF} {us : List U} {S S1 : Sto} {u : U} (h : f (bor (startE n us)) S = some (.ok u, S1)) : fnSem n (sSeq (sTry i (sSeq (sRet f) sNil) m) sNil) us S = some (.ok u, S1) := by
  refine fn_rt (δ1 := startE n us) (seq_rt (try_rt (seq_rt ?_)))
  rw [ap_sRet, h]
theorem eqP_int (a b : Int) : eqP (.int a) (.int b) = some (decide (a = b)) := by
  unfold eqP
  rw [if_pos (by rw [dok_I]; rfl), eqv_int]
/-! ### all threes, clashes -/
theorem ev_every_three (n : Nat) (hn : 3 ≤ n ∧ n ≤ 9) (S : Sto) : m__law_every_three [.d (.int n)] S = some (.ok (.d (.list ((threesL n).map eT))), S) := by
  have : n = 3 ∨ n = 4 ∨ n = 5 ∨ n = 6 ∨ n = 7 ∨ n = 8 ∨ n = 9 := by omega
  rcases this with rfl | rfl | rfl | rfl | rfl | rfl | rfl <;> kernel_rfl
theorem threes_len {n : Nat} (hn : n ≤ 9) : (threesL n).length ≤ 84 := by
  have : n = 0 ∨ n = 1 ∨ n = 2 ∨ n = 3 ∨ n = 4 ∨ n = 5 ∨ n = 6 ∨ n = 7 ∨ n = 8 ∨ n = 9 := by omega
  rcases this with rfl | rfl | rfl | rfl | rfl | rfl | rfl | rfl | rfl | rfl <;> decide
/-- the players of t that are in s -/
def inn (s t : T3) : List Nat := [t.1, t.2.1, t.2.2].filter fun x => memT x s
def clashB (s t : T3) : Bool := decide (1 < (inn t s).length)
theorem ev_inn {v i j : Nat} (s t : T3) (δ : En) (S : Sto) (hs : δ[j]? = some (some (.u (.d (eT s))))) (ht : δ[i]? = some (some (.u (.d (eT t))))) (hl : v < δ.length) (hj : j ≠ v) : eLc (itSeq (eVar i)) [v] (.one v) (tOf (eOp (cD inP) (eVar v) (eVar j))) (eVar v) δ S = some (.ok (.d (.list ((inn s t).map eI))), S) := by
  refine lc_if eI [t.1, t.2.1, t.2.2] (fun x => memT x s) eI ?_ (by simp [LIM]) (fun x hx => ⟨[(v, eI x)], rfl, ?_, fun _ => ?_⟩)
  · simp [ht]
    rfl
  · have e6 : (setD (wipeE δ [v]) [(v, eI x)])[v]? = some (some (.u (.d (eI x)))) := by simp [setD, hl]
    have e3 : (setD (wipeE δ [v]) [(v, eI x)])[j]? = some (some (.u (.d (eT s)))) := by simp [setD, hs, Ne.symm hj]
    rw [ap_tOf, ap_eOp, ap_eVar, e6]
    simp only [bnd_ok, ap_eVar, e3, cD]
    rw [show inP (eI x) (eT s) = some (memT x s) from inP_T x s]
    rfl
  · have e6 : (setD (wipeE δ [v]) [(v, eI x)])[v]? = some (some (.u (.d (eI x)))) := by simp [setD, hl]
    rw [ap_eVar, e6]
theorem gtP_int (a b : Int) : gtP (.int a) (.int b) = some (decide (b < a)) := by
  simp [gtP]
theorem ev_clash (s t : T3) (S : Sto) : m__law_clash [.d (eT s), .d (eT t)] S = some (.ok (.d (.bool (clashB s t))), S) := by
  have e := ev_inn (v := 2) (i := 0) (j := 1) t s (bor (startE 3 [.d (eT s), .d (eT t)])) S rfl rfl (by simp) (by decide)
  unfold m__law_clash
  refine fn_rt (δ1 := startE 3 [.d (eT s), .d (eT t)]) (seq_rt ?_)
  rw [ap_sRet, ap_eOp, ap_eBc, ap_aCons, e]
  simp only [bnd_ok, ap_aNil, sp_oLen1, ap_eC, sp_cD, gtP_int, List.length_map]
  unfold clashB
  have : decide ((1 : Int) < ((inn t s).length : Nat)) = decide (1 < (inn t s).length) := decide_eq_decide.mpr (by omega)
  rw [this]
theorem clash_iff {n : Nat} {s t : T3} (hs : okT n s = true) (ht : okT n t = true) : clashB s t = true ↔ ∃ q ∈ prs s, q ∈ prs t := by
  have h := okT_iff.mp hs
  have f : ∀ a b, a < b → ((a, b) ∈ prs t ↔ memT a t = true ∧ memT b t = true) := fun a b hab => by
    rw [← pr2_lt hab]
    exact pair_mem ht (by omega)
  have e : (∃ q ∈ prs s, q ∈ prs t) ↔ ((memT s.1 t = true ∧ memT s.2.1 t = true) ∨ (memT s.1 t = true ∧ memT s.2.2 t = true) ∨ (memT s.2.1 t = true ∧ memT s.2.2 t = true)) := by
    rw [← f _ _ h.1, ← f _ _ (by omega), ← f _ _ h.2.1]
    constructor
    · rintro ⟨q, hq, hq2⟩
      rcases mem_prs.mp hq with rfl | rfl | rfl
      · exact .inl hq2
      · exact .inr (.inl hq2)
      · exact .inr (.inr hq2)
    · rintro (z | z | z)
      · exact ⟨_, mem_prs.mpr (.inl rfl), z⟩
      · exact ⟨_, mem_prs.mpr (.inr (.inl rfl)), z⟩
      · exact ⟨_, mem_prs.mpr (.inr (.inr rfl)), z⟩
  rw [e]
  unfold clashB inn
  cases h1 : memT s.1 t <;> cases h2 : memT s.2.1 t <;> cases h3 : memT s.2.2 t <;> simp [h1, h2, h3]
theorem clash_no {n : Nat} {s t : T3} (hs : okT n s = true) (ht : okT n t = true) : clashB s t = false ↔ ∀ q ∈ prs s, q ∉ prs t := by
  rw [← Bool.not_eq_true, clash_iff hs ht]
  constructor
  · exact fun h q hq hq2 => h ⟨q, hq, hq2⟩
  · exact fun h ⟨q, hq, hq2⟩ => h q hq hq2
theorem clash_comm {n : Nat} {s t : T3} (hs : okT n s = true) (ht : okT n t = true) : clashB s t = clashB t s := by
  rw [Bool.eq_iff_iff, clash_iff hs ht, clash_iff ht hs]
  exact ⟨fun ⟨q, a, b⟩ => ⟨q, b, a⟩, fun ⟨q, a, b⟩ => ⟨q, b, a⟩⟩
/-- open: no clash with a three of the plan -/
theorem open_clash {n : Nat} {l : List T3} (g : ∀ t ∈ l, okT n t = true) : openL n l = (threesL n).filter fun t => l.all fun s => !clashB s t := by
  rw [openL_eq]
  refine List.filter_congr fun t ht => ?_
  have hok := mem_threes.mp ht
  rw [Bool.eq_iff_iff, List.all_eq_true, List.all_eq_true]
  constructor
  · intro h s hs
    rw [Bool.not_eq_true', clash_no (g s hs) hok]
    intro q hq hq2
    have := of_decide_eq_true (h q hq2)
    exact (mem_leftOf.mp this).2 (mem_met.mpr ⟨s, hs, hq⟩)
  · intro h q hq
    refine decide_eq_true (mem_leftOf.mpr ⟨prs_ok hok hq, fun hm => ?_⟩)
    obtain ⟨s, hs, hq2⟩ := mem_met.mp hm
    have := h s hs
    rw [Bool.not_eq_true', clash_no (g s hs) hok] at this
    exact this q hq2 hq
/-! ### drawn plans -/
def spBody (ns : List Int) : SemS := (sSeq (sIf (tOf (eOp (cD neP) (eVar 4) (eLst aNil))) (sSeq (sApp 5 (eCall (m__law_pick ns) 3 (aCons (eVar 0) (aCons (eVar 1) (aCons (eVar 4) aNil)))))
  (sSeq (sAsgF 4 (eLc (itSeq (eVar 4)) [7] (.one 7) (tNotS (tOf (eCall m__law_clash 2 (aCons (eVar 7) (aCons (eOp oIx (eVar 5) (eNeg (eC (.int 1)))) aNil))))) (eVar 7)))
  sNil)) sNil)
  sNil)
def spE (n most : PyData) (left made : List T3) (c6 : Option Cell) : En := [some (.u .sc), some (.u .tw), some (.u (.d n)), some (.u (.d most)), some (.u (.d (.list (left.map eT)))), some (.own (made.map eT)), c6, none]
theorem noLst_T : ∀ l : List T3, noLstAll (l.map eT) = true
  | [] => rfl
  | t :: l => by
    rw [List.map_cons, noLstAll, noLst_T l]
    rfl
theorem sp_step (ns : List Int) (h63 : ns.length ≤ 63) (n most : PyData) (left made : List T3) (c6 : Option Cell) (t : Nat) (ht : t < 100000) (os : List Org) (hl : left.length ≤ 100) (hm : made.length ≤ 1000) :
    (left = [] ∧ spBody ns (spE n most left made c6) ⟨some t, os⟩ = some (.nx, spE n most left made c6, ⟨some t, os⟩)) ∨
    ∃ x ∈ left, spBody ns (spE n most left made c6) ⟨some t, os⟩ = some (.nx, spE n most (left.filter fun y => !clashB y x) (made ++ [x]) c6, ⟨some (t + 1), os⟩) := by
  have hL : LIM = 1000000 := rfl
  by_cases hne : left = []
  · left
    refine ⟨hne, ?_⟩
    subst hne
    rfl
  · right
    obtain ⟨d, hd, e⟩ := pick ns h63 t ht (left.map eT) (by simpa using hne) os
    obtain ⟨x, hx, rfl⟩ := List.mem_map.mp hd
    refine ⟨x, hx, ?_⟩
    have c0 : neP (.list (left.map eT)) (.list []) = some true := by rw [ne_nil]; simp [hne]
    have hb : bor (spE n most left (made ++ [x]) c6) = [some (.u .sc), some (.u .tw), some (.u (.d n)), some (.u (.d most)), some (.u (.d (.list (left.map eT)))), some (.u (.d (.list ((made ++ [x]).map eT)))), c6.map borC, none] := rfl
    have el : eLc (itSeq (eVar 4)) [7] (.one 7) (tNotS (tOf (eCall m__law_clash 2 (aCons (eVar 7) (aCons (eOp oIx (eVar 5) (eNeg (eC (.int 1)))) aNil))))) (eVar 7) (bor (spE n most left (made ++ [x]) c6)) ⟨some (t + 1), os⟩ = some (.ok (.d (.list ((left.filter fun y => !clashB y x).map eT))), ⟨some (t + 1), os⟩) := by
      refine lc_if eT left (fun y => !clashB y x) eT rfl (by omega) (fun y hy => ⟨[(7, eT y)], rfl, ?_, fun _ => rfl⟩)
      have e4 : L2.atI ((made ++ [x]).map eT) (-1) = some (eT x) := by
        rw [List.map_append]
        exact at_last _ _
      rw [hb]
      have e5 : setD (wipeE [some (.u .sc), some (.u .tw), some (.u (.d n)), some (.u (.d most)), some (.u (.d (.list (left.map eT)))), some (.u (.d (.list ((made ++ [x]).map eT)))), c6.map borC, none] [7]) [(7, eT y)] = [some (.u .sc), some (.u .tw), some (.u (.d n)), some (.u (.d most)), some (.u (.d (.list (left.map eT)))), some (.u (.d (.list ((made ++ [x]).map eT)))), c6.map borC, some (.u (.d (eT y)))] := rfl
      rw [e5]
      simp only [ap_tNotS, ap_tOf, ap_eCall, ap_aCons, ap_aNil, ap_eVar, ap_eOp, ap_eNeg, ap_eC, List.getElem?_cons_succ, List.getElem?_cons_zero, bnd_ok, sp_oIx1, e4, List.length_cons, List.length_nil, Nat.zero_add, Nat.reduceAdd, if_true, ev_clash]
    have h1 : made.length < LIM := by omega
    unfold spBody
    rw [ap_sSeq, ap_sIf]
    have ec : tOf (eOp (cD neP) (eVar 4) (eLst aNil)) (bor (spE n most left made c6)) ⟨some t, os⟩ = some (.ok true, ⟨some t, os⟩) := by
      have h4 : eVar 4 (bor (spE n most left made c6)) ⟨some t, os⟩ = some (.ok (.d (.list (left.map eT))), ⟨some t, os⟩) := rfl
      simp only [ap_tOf, ap_eOp, h4, bnd_ok, ap_eLst, ap_aNil, sp_allD0, List.length_nil, Nat.zero_le, if_true, sp_cD, c0]
    rw [ec]
    simp only []
    have ea : sApp 5 (eCall (m__law_pick ns) 3 (aCons (eVar 0) (aCons (eVar 1) (aCons (eVar 4) aNil)))) (spE n most left made c6) ⟨some t, os⟩ = some (.nx, spE n most left (made ++ [x]) c6, ⟨some (t + 1), os⟩) := by
      rw [ap_sApp]
      have h5 : (spE n most left made c6)[5]? = some (some (.own (made.map eT))) := rfl
      have ev : eCall (m__law_pick ns) 3 (aCons (eVar 0) (aCons (eVar 1) (aCons (eVar 4) aNil))) (spE n most left made c6) ⟨some t, os⟩ = some (.ok (.d (eT x)), ⟨some (t + 1), os⟩) := by
        simp [spE, e]
      rw [h5]
      simp only [ev]
      rw [if_pos (by rw [List.length_map]; exact h1)]
      simp [spE]
    rw [seq_nx ea, ap_sSeq, ap_sAsgF, el]
    simp only [noLst_T, if_true]
    rfl
structure SpInv (n : Nat) (left made : List T3) : Prop where
  good : Good n made
  ok : ∀ x ∈ left, okT n x = true
  far : ∀ x ∈ left, ∀ m ∈ made, clashB x m = false
theorem SpInv.next {n : Nat} {left made : List T3} (h : SpInv n left made) {x : T3} (hx : x ∈ left) : SpInv n (left.filter fun y => !clashB y x) (made ++ [x]) := by
  refine ⟨good_snoc h.good (h.ok x hx) fun q hq hm => ?_, fun y hy => h.ok y (List.mem_filter.mp hy).1, fun y hy m hm => ?_⟩
  · obtain ⟨m, hm, hq2⟩ := mem_met.mp hm
    exact (clash_no (h.ok x hx) (h.good.ok m hm)).mp (h.far x hx m hm) q hq hq2
  · obtain ⟨h1, h2⟩ := List.mem_filter.mp hy
    rcases List.mem_append.mp hm with z | z
    · exact h.far y h1 m z
    · rw [List.mem_singleton.mp z]
      simpa using h2
theorem sp_loop (ns : List Int) (h63 : ns.length ≤ 63) (n : Nat) (nd most : PyData) (os : List Org) : ∀ (items : List PyData) (left made : List T3) (c6 : Option Cell) (t : Nat), SpInv n left made → left.length ≤ 100 → made.length + items.length ≤ 1000 → t + items.length < 100000 →
    ∃ left' made' c6' t', SpInv n left' made' ∧ t' ≤ t + items.length ∧ t ≤ t' ∧ made'.length ≤ made.length + items.length ∧ forGo (.one 6) (spBody ns) items (spE nd most left made c6) ⟨some t, os⟩ = some (.nx, spE nd most left' made' c6', ⟨some t', os⟩)
  | [], left, made, c6, t, hi, _, _, _ => ⟨left, made, c6, t, hi, by simp, by simp, by simp, rfl⟩
  | d :: items, left, made, c6, t, hi, hl, hm, ht => by
    rw [List.length_cons] at hm ht
    have hs : setD (spE nd most left made c6) [(6, d)] = spE nd most left made (some (.u (.d d))) := rfl
    rcases sp_step ns h63 nd most left made (some (.u (.d d))) t (by omega) os hl (by omega) with ⟨e0, e⟩ | ⟨x, hx, e⟩
    · obtain ⟨l', m', c', t', a1, a2, a3, a4, a5⟩ := sp_loop ns h63 n nd most os items left made (some (.u (.d d))) t hi hl (by omega) (by omega)
      refine ⟨l', m', c', t', a1, by rw [List.length_cons]; omega, a3, by rw [List.length_cons]; omega, ?_⟩
      unfold forGo
      show (match some [(6, d)] with | none => none | some ps => _) = _
      simp only [hs, e]
      exact a5
    · obtain ⟨l', m', c', t', a1, a2, a3, a4, a5⟩ := sp_loop ns h63 n nd most os items (left.filter fun y => !clashB y x) (made ++ [x]) (some (.u (.d d))) (t + 1) (hi.next hx) (Nat.le_trans (List.length_filter_le _ _) hl) (by rw [List.length_append, List.length_singleton]; omega) (by omega)
      rw [List.length_append, List.length_singleton] at a4
      refine ⟨l', m', c', t', a1, by rw [List.length_cons]; omega, by omega, by rw [List.length_cons]; omega, ?_⟩
      unfold forGo
      show (match some [(6, d)] with | none => none | some ps => _) = _
      simp only [hs, e]
      exact a5
theorem ev_some_plan (ns : List Int) (h63 : ns.length ≤ 63) (n most t : Nat) (hn : 3 ≤ n ∧ n ≤ 9) (hm : most ≤ 100) (ht : t + most + 10 < 100000) (os : List Org) :
    ∃ l t', standsB n l = true ∧ l.length ≤ most ∧ t ≤ t' ∧ t' ≤ t + most + 1 ∧ m__law_some_plan ns [.sc, .tw, .d (.int n), .d (.int most)] ⟨some t, os⟩ = some (.ok (.d (eP l)), ⟨some t', os⟩) := by
  obtain ⟨z, z0, z1, e⟩ := draw ns h63 t (by omega) ((most : Int) + 1) (by omega) os
  have hL : LIM = 1000000 := rfl
  have hlen : (intsD 0 z.toNat).length = z.toNat := by simp [intsD]
  obtain ⟨l', m', c', t', a1, a2, a3, a4, a5⟩ := sp_loop ns h63 n (.int n) (.int most) os (intsD 0 z.toNat) (threesL n) [] none (t + 1) ⟨good_nil n, fun x hx => mem_threes.mp hx, fun _ _ _ h => nomatch h⟩ (Nat.le_trans (threes_len hn.2) (by decide)) (by rw [hlen, List.length_nil]; omega) (by rw [hlen]; omega)
  rw [hlen] at a2 a4
  rw [List.length_nil] at a4
  refine ⟨sortT m', t', stands_sort a1.good, by rw [(sortT_perm m').length_eq]; omega, by omega, by omega, ?_⟩
  have e1 := ev_every_three n hn ⟨some t, os⟩
  unfold m__law_some_plan
  refine fn_rt (δ1 := spE (.int n) (.int most) l' m' c') ?_
  refine seq_to (δ1 := spE (.int n) (.int most) (threesL n) [] none) (S1 := ⟨some t, os⟩) ?_ (seq_to (δ1 := spE (.int n) (.int most) l' m' c') (S1 := ⟨some t', os⟩) ?_ (seq_rt ?_))
  · simp [e1, spE]
  · refine sFor_of (items := intsD 0 z.toNat) (S1 := ⟨some (t + 1), os⟩) ?_ a5
    have h2 : z.natAbs < 2 ^ 40 := by omega
    have h3 : z.natAbs < 1099511627776 := h2
    simp [spE, e, h3]
  · have e2 := oSort_T m' (by omega)
    have hb : eVar 5 (bor (spE (.int n) (.int most) l' m' c')) ⟨some t', os⟩ = some (.ok (.d (.list (m'.map eT))), ⟨some t', os⟩) := rfl
    rw [ap_sRet]
    simp only [ap_eBc, ap_aCons, ap_aNil, hb, bnd_ok, e2, sp_oTuple1]
    rfl
end PM
/-! The typed layer: unmet pairs by the law. -/
namespace PM
open PySem DL PySem.W
end PM
/-! Small things: loops with an invariant, truth values, partners. -/
namespace PM
open PySem DL PySem.W
theorem ev_same_number (a b : Int) (S : Sto) : m__law_same_number [.d (.int a), .d (.int b)] S = some (.ok (.d (.bool (decide (a = b)))), S) := by
  unfold m__law_same_number
  simp [eqP_int, PyData.isInt, PyData.isBool]
/-! ### partners by the law -/
/-- the others of a three -/
def oth (p : Nat) (t : T3) : List Nat := [t.1, t.2.1, t.2.2].filter fun x => !Nat.beq x p
theorem beq_ne {x p : Nat} : (!Nat.beq x p) = true ↔ x ≠ p := by
  rw [Bool.not_eq_true']
  constructor
  · rintro h rfl
    simp at h
  · intro h
    cases e : Nat.beq x p with
    | false => rfl
    | true => exact absurd (Nat.eq_of_beq_eq_true e) h
theorem mem_oth {p x : Nat} {t : T3} : x ∈ oth p t ↔ memT x t = true ∧ x ≠ p := by
  unfold oth
  rw [List.mem_filter, memT_iff, beq_ne]
  simp
theorem oth_len {n p : Nat} {t : T3} (ht : okT n t = true) (hp : memT p t = true) : (oth p t).length = 2 ∧ (oth p t).Nodup := by
  have h := okT_iff.mp ht
  rw [memT_iff] at hp
  have nd : [t.1, t.2.1, t.2.2].Nodup := by
    simp only [List.nodup_cons, List.mem_cons, List.not_mem_nil, or_false, not_false_eq_true, List.nodup_nil, and_true]
    omega
  refine ⟨?_, nd.filter _⟩
  unfold oth
  have f : ∀ x, x = p → (!Nat.beq x p) = false := fun x e => by rw [e]; simp
  have g : ∀ x, x ≠ p → (!Nat.beq x p) = true := fun x e => beq_ne.mpr e
  rcases hp with e | e | e
  · simp only [List.filter, f t.1 (by omega), g t.2.1 (by omega), g t.2.2 (by omega), List.length_cons, List.length_nil]
  · simp only [List.filter, g t.1 (by omega), f t.2.1 (by omega), g t.2.2 (by omega), List.length_cons, List.length_nil]
  · simp only [List.filter, g t.1 (by omega), g t.2.1 (by omega), f t.2.2 (by omega), List.length_cons, List.length_nil]
theorem flat_two {α β : Type} (f : α → List β) (k : Nat) : ∀ l : List α, (∀ x ∈ l, (f x).length = k) → (l.flatMap f).length = k * l.length
  | [], _ => rfl
  | x :: l, h => by
    rw [List.flatMap_cons, List.length_append, h x List.mem_cons_self, flat_two f k l fun y hy => h y (List.mem_cons_of_mem _ hy), List.length_cons, Nat.mul_succ]
    omega
theorem partners_len {n : Nat} {l : List T3} (g : Good n l) (p : Nat) : (partnersL n l p).length = 2 * (l.filter (memT p)).length := by
  have hok : ∀ t ∈ l.filter (memT p), okT n t = true ∧ memT p t = true := fun t ht => ⟨g.ok t (List.mem_filter.mp ht).1, (List.mem_filter.mp ht).2⟩
  rw [← flat_two (oth p) 2 (l.filter (memT p)) fun t ht => (oth_len (hok t ht).1 (hok t ht).2).1]
  refine List.Perm.length_eq ((List.perm_ext_iff_of_nodup (List.nodup_range.filter _) ?_).mpr fun x => ?_)
  · refine pw_flat _ (fun t ht => (oth_len (hok t ht).1 (hok t ht).2).2) ?_
    refine (List.Pairwise.and_mem.mp ((good_nodup g).filter (memT p))).imp fun {s t} ⟨hs, ht, hne⟩ a ha b hb e => hne ?_
    subst e
    have h1 := (mem_oth.mp ha)
    have h2 := (mem_oth.mp hb)
    exact share g.nd (List.mem_filter.mp hs).1 (List.mem_filter.mp ht).1 ((pair_mem (hok s hs).1 h1.2).mpr ⟨h1.1, (hok s hs).2⟩) ((pair_mem (hok t ht).1 h2.2).mpr ⟨h2.1, (hok t ht).2⟩)
  · rw [List.mem_filter, decide_eq_true_iff, mem_met, List.mem_flatMap, List.mem_range]
    constructor
    · rintro ⟨hx, t, ht, hq⟩
      have hxp : x ≠ p := fun e => by
        subst e
        have := okT_iff.mp (g.ok t ht)
        rw [Nat.min_self, Nat.max_self] at hq
        rcases mem_prs.mp hq with e | e | e <;> (injection e with e1 e2; omega)
      have := (pair_mem (g.ok t ht) hxp).mp hq
      exact ⟨t, List.mem_filter.mpr ⟨ht, this.2⟩, mem_oth.mpr ⟨this.1, hxp⟩⟩
    · rintro ⟨t, ht, hx⟩
      obtain ⟨h1, h2⟩ := mem_oth.mp hx
      have hto := okT_iff.mp (hok t ht).1
      refine ⟨?_, t, (List.mem_filter.mp ht).1, (pair_mem (hok t ht).1 h2).mpr ⟨h1, (hok t ht).2⟩⟩
      rw [memT_iff] at h1
      omega
end PM
/-! Arguments that are none. -/
namespace PM
open PySem DL PySem.W
end PM
/-! The first completion; no plan is greater than told. -/
namespace PM
open PySem DL PySem.W
theorem open_same {n : Nat} {l m : List T3} (h : ∀ t, t ∈ l ↔ t ∈ m) : openL n l = openL n m := by
  rw [openL_eq, openL_eq, left_same h]
theorem open_sort (n : Nat) (l : List T3) : openL n (sortT l) = openL n l := open_same fun t => sortT_mem
/-- the completion, the threes in the order of their coming -/
def complH (n : Nat) : Nat → List T3 → List T3
  | 0, l => l
  | k + 1, l => match openL n l with
    | [] => l
    | t :: _ => complH n k (l ++ [t])
theorem complH_good {n : Nat} : ∀ (k : Nat) (l : List T3), Good n l → Good n (complH n k l)
  | 0, l, g => g
  | k + 1, l, g => by
    unfold complH
    split
    · exact g
    · rename_i t r e
      exact complH_good k _ (open_good g (by rw [e]; exact List.mem_cons_self))
theorem complH_end {n : Nat} (hn : n ≤ 9) : ∀ (k : Nat) (l : List T3), Good n l → 20 < l.length + k → openL n (complH n k l) = []
  | 0, l, g, h => by
    have := full_len hn g
    omega
  | k + 1, l, g, h => by
    unfold complH
    split
    · rename_i e
      exact e
    · rename_i t r e
      exact complH_end hn k _ (open_good g (by rw [e]; exact List.mem_cons_self)) (by rw [List.length_append, List.length_singleton]; omega)
def complT (n : Nat) (l : List T3) : List T3 := sortT (complH n 21 l)
theorem complT_stands {n : Nat} {l : List T3} (g : Good n l) : standsB n (complT n l) = true := stands_sort (complH_good 21 l g)
theorem complT_end {n : Nat} (hn : n ≤ 9) {l : List T3} (g : Good n l) : openL n (complT n l) = [] := by
  unfold complT
  rw [open_sort]
  exact complH_end hn 21 l g (by omega)
theorem complH_done {n : Nat} {l : List T3} (h : openL n l = []) : ∀ k, complH n k l = l
  | 0 => rfl
  | k + 1 => by unfold complH; rw [h]
def cE (n : Nat) (l : List T3) : En := [some (.u (.d (.int n))), some (.u (.d (eP l))), some (.u (.d (.list ((openL n l).map eT))))]
def cBody : SemS := sSeq (sSet .dat 1 (eBc oTuple (aCons (eBc oSort (aCons (eOp oAdd (eVar 1) (eTup (aCons (eOp oIx (eVar 2) (eC (.int 0))) aNil))) aNil)) aNil))) (sSeq (sSet .dat 2 (eCall m_open_list 2 (aCons (eVar 0) (aCons (eVar 1) aNil)))) sNil)
theorem sort_sort (l : List T3) (t : T3) (nd : (l ++ [t]).Nodup) : sortT (sortT l ++ [t]) = sortT (l ++ [t]) := sortT_eq (((sortT_perm l).append_right [t]).trans (sortT_perm _).symm) (sortT_up nd)
theorem at_zero {α : Type} (x : α) (r : List α) : L2.atI (x :: r) 0 = some x := atI_nat (x :: r) 0 (by simp)
theorem wh_stop {c : SemT} {body : SemS} {fuel : Nat} {δ : En} {S S1 : Sto} (h : c (bor δ) S = some (.ok false, S1)) : whGo c body (fuel + 1) δ S = some (.nx, δ, S1) := by
  conv => lhs; unfold whGo
  rw [h]
theorem wh_step {c : SemT} {body : SemS} {fuel : Nat} {δ δ2 : En} {S S1 S2 : Sto} (h : c (bor δ) S = some (.ok true, S1)) (hb : body δ S1 = some (.nx, δ2, S2)) : whGo c body (fuel + 1) δ S = whGo c body fuel δ2 S2 := by
  conv => lhs; unfold whGo
  rw [h]
  simp only []
  rw [hb]
theorem wh_test {i : Nat} {δ : En} {S : Sto} {α : Type} (e : α → PyData) (l : List α) (h : (bor δ)[i]? = some (some (.u (.d (.list (l.map e)))))) : tOf (eOp (cD neP) (eVar i) (eLst aNil)) (bor δ) S = some (.ok (!decide (l = [])), S) := by
  have h2 : eVar i (bor δ) S = some (.ok (.d (.list (l.map e))), S) := by rw [ap_eVar, h]
  have e0 := ne_nil e l
  simp only [ap_tOf, ap_eOp, h2, bnd_ok, ap_eLst, ap_aNil, sp_allD0, List.length_nil, Nat.zero_le, if_true, sp_cD, e0]
theorem compl_loop (n : Nat) (hn : n ≤ 9) (S : Sto) : ∀ (k fuel : Nat) (l : List T3), Good n l → 20 < l.length + k → k < fuel → whGo (tOf (eOp (cD neP) (eVar 2) (eLst aNil))) cBody fuel (cE n (sortT l)) S = some (.nx, cE n (sortT (complH n k l)), S)
  | 0, _, l, g, h, _ => by
    have := full_len hn g
    omega
  | k + 1, 0, _, _, _, h => absurd h (by omega)
  | k + 1, fuel + 1, l, g, h, hf => by
    have hL : LIM = 1000000 := rfl
    have hlen := full_len hn g
    have et := wh_test (i := 2) (δ := cE n (sortT l)) (S := S) eT (openL n (sortT l)) rfl
    rw [open_sort] at et
    cases eo : openL n l with
    | nil =>
      rw [eo] at et
      rw [wh_stop et]
      unfold complH
      rw [eo]
    | cons t r =>
      have gt := open_good g (t := t) (by rw [eo]; exact List.mem_cons_self)
      have hs2 := sort_sort l t (good_nodup gt)
      rw [eo] at et
      have e1 := oSort_Tt (sortT l ++ [t]) (by rw [List.length_append, (sortT_perm l).length_eq, List.length_singleton]; omega)
      rw [hs2, List.map_append] at e1
      have hb : cBody (cE n (sortT l)) S = some (.nx, cE n (sortT (l ++ [t])), S) := by
        refine seq_to (δ1 := [some (.u (.d (.int n))), some (.u (.d (eP (sortT (l ++ [t]))))), some (.u (.d (.list ((openL n (sortT l)).map eT))))]) (S1 := S) ?_ (seq_to (δ1 := cE n (sortT (l ++ [t]))) (S1 := S) ?_ rfl)
        · have h1 : eVar 1 (cE n (sortT l)) S = some (.ok (.d (.tuple ((sortT l).map eT))), S) := rfl
          have h2 : eOp oIx (eVar 2) (eC (.int 0)) (cE n (sortT l)) S = some (.ok (.d (eT t)), S) := by
            have : eVar 2 (cE n (sortT l)) S = some (.ok (.d (.list (eT t :: r.map eT))), S) := by
              unfold cE
              rw [open_sort, eo]
              rfl
            simp only [ap_eOp, this, bnd_ok, ap_eC, sp_oIx1, at_zero]
          have h3 : oAdd (.d (.tuple ((sortT l).map eT))) (.d (.tuple [eT t])) = some (.d (.tuple ((sortT l).map eT ++ [eT t]))) := by
            rw [sp_oAdd3, if_pos (by rw [List.length_map, (sortT_perm l).length_eq, List.length_singleton]; omega)]
          have e1 : oSort [.d (.tuple ((sortT l).map eT ++ [eT t]))] = some (.d (.list ((sortT (l ++ [t])).map eT))) := e1
          rw [ap_sSet]
          simp only [ap_eBc, ap_aCons, ap_aNil, ap_eOp oAdd, ap_eTup, h1, h2, bnd_ok, sp_allD1, sp_allD0, List.length_cons, List.length_nil, Nat.zero_add, Nat.reduceLeDiff, if_true, h3, e1, sp_oTuple1]
          rfl
        · have e2 := ev_open_list n hn (sortT (l ++ [t])) (by rw [(sortT_perm _).length_eq, List.length_append, List.length_singleton]; omega) S
          simp [e2, cE]
      rw [wh_step et hb, compl_loop n hn S k fuel (l ++ [t]) gt (by rw [List.length_append, List.length_singleton]; omega) (by omega)]
      conv => rhs; unfold complH
      rw [eo]
theorem ev_completion (n : Nat) (hn : 3 ≤ n ∧ n ≤ 9) (l : List T3) (hs : standsB n l = true) (S : Sto) : m_completion [.d (.int n), .d (eP l)] S = some (.ok (.d (eP (complT n l))), S) := by
  obtain ⟨g, up⟩ := stands_iff.mp hs
  have hlen := full_len hn.2 g
  have e1 := ev_check_plan n hn l hlen S
  rw [if_pos hs] at e1
  have e2 := ev_open_list n hn.2 l (by omega) S
  have e3 := compl_loop n hn.2 S 21 (10 ^ 40) l g (by omega) (by decide)
  rw [sortT_eq (List.Perm.refl l) up] at e3
  unfold m_completion
  refine fn_rt (δ1 := cE n (sortT (complH n 21 l))) (seq_to (δ1 := startE 3 [.d (.int n), .d (eP l)]) (S1 := S) ?_ (seq_to (δ1 := cE n l) (S1 := S) ?_ (seq_to e3 (seq_rt rfl))))
  · simp [e1]
  · simp [e2, cE]
theorem sort_id {l : List T3} (up : Up l) : sortT l = l := sortT_eq (List.Perm.refl l) up
/-! ### no plan is greater than told -/
theorem sum_le {α : Type} (f : α → Nat) (k : Nat) : ∀ l : List α, (∀ x ∈ l, f x ≤ k) → (l.map f).sum ≤ k * l.length
  | [], _ => by simp
  | x :: l, h => by
    have h1 := h x List.mem_cons_self
    have h2 := sum_le f k l fun y hy => h y (List.mem_cons_of_mem _ hy)
    rw [List.map_cons, List.sum_cons, List.length_cons, Nat.mul_succ]
    omega
theorem sum_const {α : Type} (k : Nat) : ∀ l : List α, (l.map fun _ => k).sum = k * l.length
  | [] => by simp
  | x :: l => by
    rw [List.map_cons, List.sum_cons, sum_const k l, List.length_cons, Nat.mul_succ]
    omega
theorem sum_swap {α β : Type} (f : α → β → Nat) (O : List β) : ∀ A : List α, (A.map fun a => (O.map fun b => f a b).sum).sum = (O.map fun b => (A.map fun a => f a b).sum).sum
  | [] => by simp [sum_const]
  | a :: A => by
    rw [List.map_cons, List.sum_cons, sum_swap f O A, ← sum_add]
    simp only [List.map_cons, List.sum_cons]
theorem in_three {n : Nat} {t : T3} (ht : okT n t = true) : ((List.range n).filter fun p => memT p t).length = 3 := by
  have h := okT_iff.mp ht
  have : ((List.range n).filter fun p => memT p t).Perm [t.1, t.2.1, t.2.2] := by
    refine (List.perm_ext_iff_of_nodup (List.nodup_range.filter _) ?_).mpr fun x => ?_
    · simp only [List.nodup_cons, List.mem_cons, List.not_mem_nil, or_false, not_false_eq_true, List.nodup_nil, and_true]
      omega
    · rw [List.mem_filter, List.mem_range, memT_iff]
      simp only [List.mem_cons, List.not_mem_nil, or_false]
      omega
  exact this.length_eq
theorem deg_sum {n : Nat} {l : List T3} (g : Good n l) : ((List.range n).map fun p => (l.filter (memT p)).length).sum = 3 * l.length := by
  have h1 : ((List.range n).map fun p => (l.filter (memT p)).length) = (List.range n).map fun p => (l.map fun t => if memT p t = true then 1 else 0).sum := List.map_congr_left fun p _ => (sum_if (memT p) l).symm
  rw [h1, sum_swap (fun p t => if memT p t = true then 1 else 0)]
  have h2 : (l.map fun t => ((List.range n).map fun p => if memT p t = true then 1 else 0).sum) = l.map fun _ => 3 := List.map_congr_left fun t ht => by
    rw [sum_if (fun p => memT p t)]
    exact in_three (g.ok t ht)
  rw [h2, sum_const]
theorem deg_le {n : Nat} {l : List T3} (g : Good n l) {p : Nat} (hp : p < n) : 2 * (l.filter (memT p)).length ≤ n - 1 := by
  rw [← partners_len g p]
  have : (partnersL n l p).length ≤ ((List.range n).erase p).length := nodup_len (List.nodup_range.filter _) fun x hx => by
    obtain ⟨h1, h2⟩ := List.mem_filter.mp hx
    refine (List.mem_erase_of_ne fun e => ?_).mpr h1
    subst e
    have h2 := of_decide_eq_true h2
    obtain ⟨t, ht, hq⟩ := mem_met.mp h2
    have := okT_iff.mp (g.ok t ht)
    rw [Nat.min_self, Nat.max_self] at hq
    rcases mem_prs.mp hq with e | e | e <;> (injection e with e1 e2; omega)
  rw [List.length_erase_of_mem (List.mem_range.mpr hp), List.length_range] at this
  exact this
theorem five_no : ((threesL 5).all fun s => (threesL 5).all fun t => (threesL 5).all fun u => decide (s = t) || (decide (s = u) || (decide (t = u) || (clashB s t || (clashB s u || clashB t u))))) = true := by decide +kernel
theorem good_max {n : Nat} (hn : 3 ≤ n ∧ n ≤ 9) {l : List T3} (g : Good n l) : l.length ≤ gN n := by
  have h1 := deg_sum g
  have h2 : ((List.range n).map fun p => (l.filter (memT p)).length).sum ≤ ((n - 1) / 2) * (List.range n).length := sum_le _ _ _ fun p hp => by
    have := deg_le g (List.mem_range.mp hp)
    omega
  rw [h1, List.length_range] at h2
  have : n = 3 ∨ n = 4 ∨ n = 5 ∨ n = 6 ∨ n = 7 ∨ n = 8 ∨ n = 9 := by omega
  rcases this with rfl | rfl | rfl | rfl | rfl | rfl | rfl
  · simp [gN] at h2 ⊢; omega
  · simp [gN] at h2 ⊢; omega
  · have hle : l.length ≤ 3 := by simp at h2; omega
    refine Classical.byContradiction fun hc => ?_
    have hl3 : l.length = 3 := by simp [gN] at hc; omega
    match l, hl3 with
    | [s, t, u], _ =>
      have nd := good_nodup g
      have ok := fun x hx => g.ok x hx
      have cl : ∀ x y, x ∈ [s, t, u] → y ∈ [s, t, u] → x ≠ y → clashB x y = false := fun x y hx hy hne => (clash_no (g.ok x hx) (g.ok y hy)).mpr fun q hq hq2 => hne (share g.nd hx hy hq hq2)
      have h5 := List.all_eq_true.mp (List.all_eq_true.mp (List.all_eq_true.mp five_no s (mem_threes.mpr (g.ok s (by simp)))) t (mem_threes.mpr (g.ok t (by simp)))) u (mem_threes.mpr (g.ok u (by simp)))
      simp only [List.nodup_cons, List.mem_cons, List.not_mem_nil, or_false, not_or, not_false_eq_true, List.nodup_nil, and_true] at nd
      obtain ⟨⟨n1, n2⟩, n3⟩ := nd
      rw [decide_eq_false n1, decide_eq_false n2, decide_eq_false n3, cl s t (by simp) (by simp) n1, cl s u (by simp) (by simp) n2, cl t u (by simp) (by simp) n3] at h5
      cases h5
  · simp [gN] at h2 ⊢; omega
  · simp [gN] at h2 ⊢; omega
  · simp [gN] at h2 ⊢; omega
  · simp [gN] at h2 ⊢; omega
end PM
set_option maxHeartbeats 4000000
namespace K02
open PySem L2 DL PM
def topS (i : Nat) : Stmt := PySem.Challenge.pw_threeplans_k02_whole_growing.main.body.getD i (.Pass ⟨0, 0, 0, 0⟩)
abbrev st_is_integer : Stmt := topS 14
abbrev N_is_integer : List Str := ["value", "low", "high"]
theorem sc_is_integer : FnScope N_is_integer ["value", "low", "high"] (defScope st_is_integer) := ⟨rfl, rfl, rfl, by decide +kernel, rfl, by decide +kernel, by decide +kernel⟩
abbrev st_check_players : Stmt := topS 15
abbrev N_check_players : List Str := ["players"]
theorem sc_check_players : FnScope N_check_players ["players"] (defScope st_check_players) := ⟨rfl, rfl, rfl, by decide +kernel, rfl, by decide +kernel, by decide +kernel⟩
abbrev st_fits : Stmt := topS 16
abbrev N_fits : List Str := ["players", "value", "one"]
theorem sc_fits : FnScope N_fits ["players", "value"] (defScope st_fits) := ⟨rfl, rfl, rfl, by decide +kernel, rfl, by decide +kernel, by decide +kernel⟩
abbrev st_pairs_of : Stmt := topS 17
abbrev N_pairs_of : List Str := ["three"]
theorem sc_pairs_of : FnScope N_pairs_of ["three"] (defScope st_pairs_of) := ⟨rfl, rfl, rfl, by decide +kernel, rfl, by decide +kernel, by decide +kernel⟩
abbrev st_pairs_met : Stmt := topS 18
abbrev N_pairs_met : List Str := ["plan", "found", "three"]
theorem sc_pairs_met : FnScope N_pairs_met ["plan"] (defScope st_pairs_met) := ⟨rfl, rfl, rfl, by decide +kernel, rfl, by decide +kernel, by decide +kernel⟩
abbrev st_stands : Stmt := topS 19
abbrev N_stands : List Str := ["players", "value", "three", "met", "one", "other"]
theorem sc_stands : FnScope N_stands ["players", "value"] (defScope st_stands) := ⟨rfl, rfl, rfl, by decide +kernel, rfl, by decide +kernel, by decide +kernel⟩
abbrev st_is_plan : Stmt := topS 20
abbrev N_is_plan : List Str := ["players", "value"]
theorem sc_is_plan : FnScope N_is_plan ["players", "value"] (defScope st_is_plan) := ⟨rfl, rfl, rfl, by decide +kernel, rfl, by decide +kernel, by decide +kernel⟩
abbrev st_check_plan : Stmt := topS 21
abbrev N_check_plan : List Str := ["players", "plan"]
theorem sc_check_plan : FnScope N_check_plan ["players", "plan"] (defScope st_check_plan) := ⟨rfl, rfl, rfl, by decide +kernel, rfl, by decide +kernel, by decide +kernel⟩
abbrev st_all_pairs : Stmt := topS 22
abbrev N_all_pairs : List Str := ["players", "found", "one", "other"]
theorem sc_all_pairs : FnScope N_all_pairs ["players"] (defScope st_all_pairs) := ⟨rfl, rfl, rfl, by decide +kernel, rfl, by decide +kernel, by decide +kernel⟩
abbrev st_left_of : Stmt := topS 23
abbrev N_left_of : List Str := ["players", "plan", "met", "pair"]
theorem sc_left_of : FnScope N_left_of ["players", "plan"] (defScope st_left_of) := ⟨rfl, rfl, rfl, by decide +kernel, rfl, by decide +kernel, by decide +kernel⟩
abbrev st_open_list : Stmt := topS 25
abbrev N_open_list : List Str := ["players", "plan", "left", "found", "one", "other", "last", "pair"]
theorem sc_open_list : FnScope N_open_list ["players", "plan"] (defScope st_open_list) := ⟨rfl, rfl, rfl, by decide +kernel, rfl, by decide +kernel, by decide +kernel⟩
abbrev st_open_threes : Stmt := topS 26
abbrev N_open_threes : List Str := ["players", "plan"]
theorem sc_open_threes : FnScope N_open_threes ["players", "plan"] (defScope st_open_threes) := ⟨rfl, rfl, rfl, by decide +kernel, rfl, by decide +kernel, by decide +kernel⟩
abbrev st_completion : Stmt := topS 27
abbrev N_completion : List Str := ["players", "plan", "some"]
theorem sc_completion : FnScope N_completion ["players", "plan"] (defScope st_completion) := ⟨rfl, rfl, rfl, by decide +kernel, rfl, by decide +kernel, by decide +kernel⟩
abbrev st_greatest : Stmt := topS 28
abbrev N_greatest : List Str := ["players"]
theorem sc_greatest : FnScope N_greatest ["players"] (defScope st_greatest) := ⟨rfl, rfl, rfl, by decide +kernel, rfl, by decide +kernel, by decide +kernel⟩
abbrev st__law_cell_at : Stmt := topS 30
abbrev N__law_cell_at : List Str := ["script", "k", "spare", "again"]
theorem sc__law_cell_at : FnScope N__law_cell_at ["script", "k"] (defScope st__law_cell_at) := ⟨rfl, rfl, rfl, by decide +kernel, rfl, by decide +kernel, by decide +kernel⟩
abbrev st__law_mixed : Stmt := topS 31
abbrev N__law_mixed : List Str := ["script", "k", "many", "spun"]
theorem sc__law_mixed : FnScope N__law_mixed ["script", "k", "many"] (defScope st__law_mixed) := ⟨rfl, rfl, rfl, by decide +kernel, rfl, by decide +kernel, by decide +kernel⟩
abbrev st__law_draw : Stmt := topS 32
abbrev N__law_draw : List Str := ["script", "town", "many"]
theorem sc__law_draw : FnScope N__law_draw ["script", "town", "many"] (defScope st__law_draw) := ⟨rfl, rfl, rfl, by decide +kernel, rfl, by decide +kernel, by decide +kernel⟩
abbrev st__law_pick : Stmt := topS 33
abbrev N__law_pick : List Str := ["script", "town", "some"]
theorem sc__law_pick : FnScope N__law_pick ["script", "town", "some"] (defScope st__law_pick) := ⟨rfl, rfl, rfl, by decide +kernel, rfl, by decide +kernel, by decide +kernel⟩
abbrev st__law_same_number : Stmt := topS 34
abbrev N__law_same_number : List Str := ["got", "due"]
theorem sc__law_same_number : FnScope N__law_same_number ["got", "due"] (defScope st__law_same_number) := ⟨rfl, rfl, rfl, by decide +kernel, rfl, by decide +kernel, by decide +kernel⟩
abbrev st__law_every_three : Stmt := topS 35
abbrev N__law_every_three : List Str := ["n", "made", "a", "b", "c"]
theorem sc__law_every_three : FnScope N__law_every_three ["n"] (defScope st__law_every_three) := ⟨rfl, rfl, rfl, by decide +kernel, rfl, by decide +kernel, by decide +kernel⟩
abbrev st__law_clash : Stmt := topS 36
abbrev N__law_clash : List Str := ["one", "other", "player"]
theorem sc__law_clash : FnScope N__law_clash ["one", "other"] (defScope st__law_clash) := ⟨rfl, rfl, rfl, by decide +kernel, rfl, by decide +kernel, by decide +kernel⟩
abbrev st__law_some_plan : Stmt := topS 37
abbrev N__law_some_plan : List Str := ["script", "town", "n", "most", "left", "made", "again", "three"]
theorem sc__law_some_plan : FnScope N__law_some_plan ["script", "town", "n", "most"] (defScope st__law_some_plan) := ⟨rfl, rfl, rfl, by decide +kernel, rfl, by decide +kernel, by decide +kernel⟩
abbrev st__law_which : Stmt := topS 38
abbrev N__law_which : List Str := ["e", "own"]
theorem sc__law_which : FnScope N__law_which ["e"] (defScope st__law_which) := ⟨rfl, rfl, rfl, by decide +kernel, rfl, by decide +kernel, by decide +kernel⟩
abbrev st__law_ask : Stmt := topS 39
abbrev N__law_ask : List Str := ["what", "n", "plan", "e"]
theorem sc__law_ask : FnScope N__law_ask ["what", "n", "plan"] (defScope st__law_ask) := ⟨rfl, rfl, rfl, by decide +kernel, rfl, by decide +kernel, by decide +kernel⟩
abbrev st_law : Stmt := topS 40
abbrev N_law : List Str := ["script", "town", "n", "plan", "left", "three", "one", "here", "due", "most", "grown", "some", "what"]
theorem sc_law : FnScope N_law ["script"] (defScope st_law) := ⟨rfl, rfl, rfl, by decide +kernel, rfl, by decide +kernel, by decide +kernel⟩
def s0__law_ask : SemS := (sTry 3 (sSeq (sRet (eCallL [m_open_threes, m_completion] 2 (eVar 0) (aCons (eVar 1) (aCons (eVar 2) aNil))))
  sNil) m__law_which)
def m__law_ask : SemF := fnSem 4
  (sSeq s0__law_ask
  sNil)
def s0_law : SemS := (sTown 1)
def s1_law (ns : List Int) : SemS := (sSet .dat 2 (eOp oAdd (eC (.int 3)) (eCall (m__law_draw ns) 3 (aCons (eVar 0) (aCons (eVar 1) (aCons (eC (.int 7)) aNil))))))
def s2_law (ns : List Int) : SemS := (sSet .dat 3 (eCall (m__law_some_plan ns) 4 (aCons (eVar 0) (aCons (eVar 1) (aCons (eVar 2) (aCons (eC (.int 8)) aNil))))))
def s3_law : SemS := (sSet .dat 4 (eLc (itSeq (eCall m__law_every_three 1 (aCons (eVar 2) aNil))) [5] (.one 5) (tOf (eOp (cD eqP) (eLc (itSeq (eVar 3)) [6] (.one 6) (tOf (eCall m__law_clash 2 (aCons (eVar 6) (aCons (eVar 5) aNil)))) (eC (.int 1))) (eLst aNil))) (eVar 5)))
def s4_law : SemS := (sIf (tOf (eOp (cD neP) (eCall m__law_ask 3 (aCons (eC (.int 0)) (aCons (eVar 2) (aCons (eVar 3) aNil)))) (eVar 4))) (sSeq (sRet (eC (.bool false)))
  sNil) sNil)
def s5_law : SemS := (sSet .own 7 (eBc oList (aCons (eVar 3) aNil)))
def s6_law : SemS := (whGo (tOf (eOp (cD neP) (eVar 4) (eLst aNil))) (sSeq (sApp 7 (eOp oIx (eVar 4) (eC (.int 0))))
  (sSeq (sAsgF 4 (eLc (itSeq (eVar 4)) [5] (.one 5) (tNotS (tOf (eCall m__law_clash 2 (aCons (eVar 5) (aCons (eOp oIx (eVar 7) (eNeg (eC (.int 1)))) aNil))))) (eVar 5)))
  sNil)) 10000000000000000000000000000000000000000)
def s7_law : SemS := (sAsgB 8 (eBc oTuple (aCons (eBc oSort (aCons (eVar 7) aNil)) aNil)))
def s8_law : SemS := (sIf (tOrS (tOf (eOp (cD neP) (eCall m__law_ask 3 (aCons (eC (.int 1)) (aCons (eVar 2) (aCons (eVar 3) aNil)))) (eVar 8))) (tOrS (tOf (eOp (cD isNotP) (eCall m_is_plan 2 (aCons (eVar 2) (aCons (eVar 8) aNil))) (eC (.bool true)))) (tOf (eOp (cD neP) (eCall m__law_ask 3 (aCons (eC (.int 0)) (aCons (eVar 2) (aCons (eVar 8) aNil)))) (eLst aNil))))) (sSeq (sRet (eC (.bool false)))
  sNil) sNil)
def s9_law : SemS := (sSet .dat 9 (eOp oIx (eLst (aCons (eC (.int 1)) (aCons (eC (.int 1)) (aCons (eC (.int 2)) (aCons (eC (.int 4)) (aCons (eC (.int 7)) (aCons (eC (.int 8)) (aCons (eC (.int 12)) aNil)))))))) (eOp oSub (eVar 2) (eC (.int 3)))))
def s10_law : SemS := (sIf (tOrS (tNotS (tOf (eCall m__law_same_number 2 (aCons (eCall m_greatest 1 (aCons (eVar 2) aNil)) (aCons (eVar 9) aNil))))) (tOf (eOp (cD gtP) (eBc oLen (aCons (eVar 8) aNil)) (eVar 9)))) (sSeq (sRet (eC (.bool false)))
  sNil) sNil)
def s11_law : SemS := (sPar .own 10 (eBc oList (aCons (eVar 3) aNil)) .dat 11 (eBc oList (aCons (eCall m__law_ask 3 (aCons (eC (.int 0)) (aCons (eVar 2) (aCons (eVar 3) aNil)))) aNil)))
def s12_law (ns : List Int) : SemS := (whGo (tOf (eOp (cD neP) (eVar 11) (eLst aNil))) (sSeq (sApp 10 (eCall (m__law_pick ns) 3 (aCons (eVar 0) (aCons (eVar 1) (aCons (eVar 11) aNil)))))
  (sSeq (sSetC 11 m__law_ask 3 (aCons (eC (.int 0)) (aCons (eVar 2) (aCons (eBc oTuple (aCons (eBc oSort (aCons (eVar 10) aNil)) aNil)) aNil))))
  sNil)) 10000000000000000000000000000000000000000)
def s13_law : SemS := (sIf (tOrS (tOf (eOp (cD gtP) (eBc oLen (aCons (eVar 10) aNil)) (eVar 9))) (tOf (eOp (cD neP) (eCall m__law_ask 3 (aCons (eC (.int 1)) (aCons (eVar 2) (aCons (eBc oTuple (aCons (eBc oSort (aCons (eVar 10) aNil)) aNil)) aNil)))) (eBc oTuple (aCons (eBc oSort (aCons (eVar 10) aNil)) aNil))))) (sSeq (sRet (eC (.bool false)))
  sNil) sNil)
def s14_law : SemS := (sRet (eOp (cD eqP) (eLc (itSeq (eTup (aCons (eC (.int 0)) (aCons (eC (.int 1)) aNil)))) [12] (.one 12) tTrue (eCall m__law_ask 3 (aCons (eVar 12) (aCons (eVar 2) (aCons (eTup (aCons (eTup (aCons (eC (.int 0)) (aCons (eC (.int 1)) (aCons (eC (.int 2)) aNil)))) (aCons (eTup (aCons (eC (.int 0)) (aCons (eC (.int 1)) (aCons (eC (.int 2)) aNil)))) aNil))) aNil))))) (eOp oMul (eLst (aCons (eTup (aCons (eC (.str "raised")) (aCons (eC (.int 2)) aNil))) aNil)) (eC (.int 2)))))
def m_law (ns : List Int) : SemF := fnSem 13
  (sSeq s0_law
  (sSeq (s1_law ns)
  (sSeq (s2_law ns)
  (sSeq s3_law
  (sSeq s4_law
  (sSeq s5_law
  (sSeq s6_law
  (sSeq s7_law
  (sSeq s8_law
  (sSeq s9_law
  (sSeq s10_law
  (sSeq s11_law
  (sSeq (s12_law ns)
  (sSeq s13_law
  (sSeq s14_law
  sNil)))))))))))))))
structure Top (g : Gb) : Prop where
  b_ValueError : g.mg "ValueError" = none
  b_all : g.mg "all" = none
  b_bool : g.mg "bool" = none
  b_int : g.mg "int" = none
  b_isinstance : g.mg "isinstance" = none
  b_len : g.mg "len" = none
  b_list : g.mg "list" = none
  b_min : g.mg "min" = none
  b_range : g.mg "range" = none
  b_set : g.mg "set" = none
  b_sorted : g.mg "sorted" = none
  b_tuple : g.mg "tuple" = none
  b_zip : g.mg "zip" = none
  x_InvalidFour : ExcF g 4 "InvalidFour" [.type "ValueError", .type "Exception", .type "BaseException", .type "object"]
  x_InvalidNames : ExcF g 5 "InvalidNames" [.type "ValueError", .type "Exception", .type "BaseException", .type "object"]
  x_InvalidPlan : ExcF g 2 "InvalidPlan" [.type "ValueError", .type "Exception", .type "BaseException", .type "object"]
  x_InvalidPlayer : ExcF g 3 "InvalidPlayer" [.type "ValueError", .type "Exception", .type "BaseException", .type "object"]
  x_InvalidPlayers : ExcF g 0 "InvalidPlayers" [.type "ValueError", .type "Exception", .type "BaseException", .type "object"]
  x_InvalidThree : ExcF g 1 "InvalidThree" [.type "ValueError", .type "Exception", .type "BaseException", .type "object"]
  x_MetAlready : ExcF g 8 "MetAlready" [.type "ValueError", .type "Exception", .type "BaseException", .type "object"]
  x_NoDays : ExcF g 7 "NoDays" [.type "ValueError", .type "Exception", .type "BaseException", .type "object"]
  x_NoPlan : ExcF g 6 "NoPlan" [.type "ValueError", .type "Exception", .type "BaseException", .type "object"]
  x_NothingToUndo : ExcF g 9 "NothingToUndo" [.type "ValueError", .type "Exception", .type "BaseException", .type "object"]
  x_ParseError : ExcF g 10 "ParseError" [.type "ValueError", .type "Exception", .type "BaseException", .type "object"]
  xall : ExcAll g.wd
  plan : PlanE g
  d_is_integer : ∃ f fd, Fun g.wd.K "is_integer" "is_integer" st_is_integer f fd ∧ g.mg "is_integer" = some (.ref f)
  d_check_players : ∃ f fd, Fun g.wd.K "check_players" "check_players" st_check_players f fd ∧ g.mg "check_players" = some (.ref f)
  d_fits : ∃ f fd, Fun g.wd.K "fits" "fits" st_fits f fd ∧ g.mg "fits" = some (.ref f)
  d_pairs_of : ∃ f fd, Fun g.wd.K "pairs_of" "pairs_of" st_pairs_of f fd ∧ g.mg "pairs_of" = some (.ref f)
  d_pairs_met : ∃ f fd, Fun g.wd.K "pairs_met" "pairs_met" st_pairs_met f fd ∧ g.mg "pairs_met" = some (.ref f)
  d_stands : ∃ f fd, Fun g.wd.K "stands" "stands" st_stands f fd ∧ g.mg "stands" = some (.ref f)
  d_is_plan : ∃ f fd, Fun g.wd.K "is_plan" "is_plan" st_is_plan f fd ∧ g.mg "is_plan" = some (.ref f)
  d_check_plan : ∃ f fd, Fun g.wd.K "check_plan" "check_plan" st_check_plan f fd ∧ g.mg "check_plan" = some (.ref f)
  d_all_pairs : ∃ f fd, Fun g.wd.K "all_pairs" "all_pairs" st_all_pairs f fd ∧ g.mg "all_pairs" = some (.ref f)
  d_left_of : ∃ f fd, Fun g.wd.K "left_of" "left_of" st_left_of f fd ∧ g.mg "left_of" = some (.ref f)
  d_open_list : ∃ f fd, Fun g.wd.K "open_list" "open_list" st_open_list f fd ∧ g.mg "open_list" = some (.ref f)
  d_open_threes : ∃ f fd, Fun g.wd.K "open_threes" "open_threes" st_open_threes f fd ∧ g.mg "open_threes" = some (.ref f)
  d_completion : ∃ f fd, Fun g.wd.K "completion" "completion" st_completion f fd ∧ g.mg "completion" = some (.ref f)
  d_greatest : ∃ f fd, Fun g.wd.K "greatest" "greatest" st_greatest f fd ∧ g.mg "greatest" = some (.ref f)
  d__law_cell_at : ∃ f fd, Fun g.wd.K "_law_cell_at" "_law_cell_at" st__law_cell_at f fd ∧ g.mg "_law_cell_at" = some (.ref f)
  d__law_mixed : ∃ f fd, Fun g.wd.K "_law_mixed" "_law_mixed" st__law_mixed f fd ∧ g.mg "_law_mixed" = some (.ref f)
  d__law_draw : ∃ f fd, Fun g.wd.K "_law_draw" "_law_draw" st__law_draw f fd ∧ g.mg "_law_draw" = some (.ref f)
  d__law_pick : ∃ f fd, Fun g.wd.K "_law_pick" "_law_pick" st__law_pick f fd ∧ g.mg "_law_pick" = some (.ref f)
  d__law_same_number : ∃ f fd, Fun g.wd.K "_law_same_number" "_law_same_number" st__law_same_number f fd ∧ g.mg "_law_same_number" = some (.ref f)
  d__law_every_three : ∃ f fd, Fun g.wd.K "_law_every_three" "_law_every_three" st__law_every_three f fd ∧ g.mg "_law_every_three" = some (.ref f)
  d__law_clash : ∃ f fd, Fun g.wd.K "_law_clash" "_law_clash" st__law_clash f fd ∧ g.mg "_law_clash" = some (.ref f)
  d__law_some_plan : ∃ f fd, Fun g.wd.K "_law_some_plan" "_law_some_plan" st__law_some_plan f fd ∧ g.mg "_law_some_plan" = some (.ref f)
  d__law_which : ∃ f fd, Fun g.wd.K "_law_which" "_law_which" st__law_which f fd ∧ g.mg "_law_which" = some (.ref f)
  d__law_ask : ∃ f fd, Fun g.wd.K "_law_ask" "_law_ask" st__law_ask f fd ∧ g.mg "_law_ask" = some (.ref f)
  d_law : ∃ f fd, Fun g.wd.K "law" "law" st_law f fd ∧ g.mg "law" = some (.ref f)
section
variable {g : Gb}
theorem k_is_integer (T : Top g) : Fk g 1 "is_integer" 3 m_is_integer := by
  obtain ⟨f, fd, Fd, hm⟩ := T.d_is_integer
  refine fk_mk (j := 0) (N := N_is_integer) (ps := ["value", "low", "high"]) Fd hm sc_is_integer (Fd.binds fun _ _ _ _ _ _ us hl => match us, hl with | [_, _, _], _ => rfl) fun cdv A outer s H E F0 => ?_
  exact (ss_cons (ss_ret (se_and (se_isT .int F0 T.b_isinstance T.b_int (by decide +kernel) (se_var 0)) (se_and (se_not (se_isT .bool F0 T.b_isinstance T.b_bool (by decide +kernel) (se_var 0))) (se_one (se_chain (ok_le F0) (ok_le F0) (se_var 1) (se_var 0) (se_var 2))))))
    ss_nil)
theorem k_check_players (T : Top g) : Fk g 2 "check_players" 1 m_check_players := by
  obtain ⟨f, fd, Fd, hm⟩ := T.d_check_players
  refine fk_mk (j := 1) (N := N_check_players) (ps := ["players"]) Fd hm sc_check_players (Fd.binds fun _ _ _ _ _ _ us hl => match us, hl with | [_], _ => rfl) fun cdv A outer s H E F0 => ?_
  exact (ss_cons (ss_if (st_not (st_val (se_call F0 (k_is_integer T) (sa_cons (se_var 0) (sa_cons se_int (sa_cons se_int sa_nil)))))) (ss_cons (ss_raise 0 F0 T.x_InvalidPlayers PySem.F.excBase_ValueError)
    ss_nil) ss_nil)
    ss_nil)
theorem k_fits (T : Top g) : Fk g 2 "fits" 2 m_fits := by
  obtain ⟨f, fd, Fd, hm⟩ := T.d_fits
  refine fk_mk (j := 1) (N := N_fits) (ps := ["players", "value"]) Fd hm sc_fits (Fd.binds fun _ _ _ _ _ _ us hl => match us, hl with | [_, _], _ => rfl) fun cdv A outer s H E F0 => ?_
  exact (ss_cons (ss_if (SW.st (sw_or (st_not (st_val (se_isT .tuple F0 T.b_isinstance T.b_tuple (by decide +kernel) (se_var 1)))) (sw_or (st_cmp (ok_ne F0) (se_callB F0 T.b_len PySem.boot_len (ok_len F0) (sa_cons (se_var 1) sa_nil)) se_int) (sw_or1 (st_not (st_val (se_callB F0 T.b_all (by decide +kernel) (ok_all F0) (sa_cons (SF.se (sf_lc [("one", 2)] N_fits F0 (si_seq F0 (se_var 1)) (sg_name 2 (F0.blk _)) sq_nil (se_call (F0.blk _) (k_is_integer T) (sa_cons (se_var 2) (sa_cons se_int (sa_cons (se_bin (ok_sub (F0.blk _)) (se_var 0) se_int) sa_nil)))))) sa_nil)))))))) (ss_cons (ss_ret se_bl)
    ss_nil) ss_nil)
    (ss_cons (ss_ret (se_chain (ok_lt F0) (ok_lt F0) (se_ix F0 (se_var 1) se_int) (se_ix F0 (se_var 1) se_int) (se_ix F0 (se_var 1) se_int)))
    ss_nil))
theorem k_pairs_of (T : Top g) : Fk g 1 "pairs_of" 1 m_pairs_of := by
  obtain ⟨f, fd, Fd, hm⟩ := T.d_pairs_of
  refine fk_mk (j := 0) (N := N_pairs_of) (ps := ["three"]) Fd hm sc_pairs_of (Fd.binds fun _ _ _ _ _ _ us hl => match us, hl with | [_], _ => rfl) fun cdv A outer s H E F0 => ?_
  exact (ss_cons (ss_ret (SF.se (sf_lst (sa_cons (se_slice F0 (se_var 0) so_none (so_some se_int)) (sa_cons (se_tup (sa_cons (se_ix F0 (se_var 0) se_int) (sa_cons (se_ix F0 (se_var 0) se_int) sa_nil))) (sa_cons (se_slice F0 (se_var 0) (so_some se_int) so_none) sa_nil))))))
    ss_nil)
theorem k_pairs_met (T : Top g) : Fk g 2 "pairs_met" 1 m_pairs_met := by
  obtain ⟨f, fd, Fd, hm⟩ := T.d_pairs_met
  refine fk_mk (j := 1) (N := N_pairs_met) (ps := ["plan"]) Fd hm sc_pairs_met (Fd.binds fun _ _ _ _ _ _ us hl => match us, hl with | [_], _ => rfl) fun cdv A outer s H E F0 => ?_
  exact (ss_cons (ss_set .own 1 F0 (SF.own (sf_lst sa_nil)))
    (ss_cons (ss_for F0 (si_seq F0 (se_var 0)) (sg_name 2 F0) (ss_cons (ss_extA 1 F0 (se_call F0 (k_pairs_of T) (sa_cons (se_var 2) sa_nil)))
    ss_nil))
    (ss_cons (ss_ret (se_var 1))
    ss_nil)))
theorem k_stands (T : Top g) : Fk g 3 "stands" 2 m_stands := by
  obtain ⟨f, fd, Fd, hm⟩ := T.d_stands
  refine fk_mk (j := 2) (N := N_stands) (ps := ["players", "value"]) Fd hm sc_stands (Fd.binds fun _ _ _ _ _ _ us hl => match us, hl with | [_, _], _ => rfl) fun cdv A outer s H E F0 => ?_
  exact (ss_cons (ss_if (SW.st (sw_or (st_not (st_val (se_isT .tuple F0 T.b_isinstance T.b_tuple (by decide +kernel) (se_var 1)))) (sw_or1 (st_not (st_val (se_callB F0 T.b_all (by decide +kernel) (ok_all F0) (sa_cons (SF.se (sf_lc [("three", 2)] N_stands F0 (si_seq F0 (se_var 1)) (sg_name 2 (F0.blk _)) sq_nil (se_call (F0.blk _) (k_fits T) (sa_cons (se_var 0) (sa_cons (se_var 2) sa_nil))))) sa_nil))))))) (ss_cons (ss_ret se_bl)
    ss_nil) ss_nil)
    (ss_cons (ss_set .dat 3 F0 (SE.dat (se_call F0 (k_pairs_met T) (sa_cons (se_var 1) sa_nil))))
    (ss_cons (ss_ret (se_and (se_cmp (ok_eq F0) (se_lenSet F0 T.b_len T.b_set (se_var 3)) (se_callB F0 T.b_len PySem.boot_len (ok_len F0) (sa_cons (se_var 3) sa_nil))) (se_one (se_callB F0 T.b_all (by decide +kernel) (ok_all F0) (sa_cons (SF.se (sf_lc [("one", 4), ("other", 5)] N_stands F0 (si_zip F0 T.b_zip (sa_cons (se_var 1) (sa_cons (se_slice F0 (se_var 1) (so_some se_int) so_none) sa_nil))) (sg_tup (F0.blk _) (sgs_cons 4 (F0.blk _) (sgs_cons 5 (F0.blk _) sgs_nil))) sq_nil (se_cmp (ok_lt (F0.blk _)) (se_var 4) (se_var 5)))) sa_nil)))))
    ss_nil)))
theorem k_is_plan (T : Top g) : Fk g 4 "is_plan" 2 m_is_plan := by
  obtain ⟨f, fd, Fd, hm⟩ := T.d_is_plan
  refine fk_mk (j := 3) (N := N_is_plan) (ps := ["players", "value"]) Fd hm sc_is_plan (Fd.binds fun _ _ _ _ _ _ us hl => match us, hl with | [_, _], _ => rfl) fun cdv A outer s H E F0 => ?_
  exact (ss_cons (ss_expr (se_call F0 (k_check_players T) (sa_cons (se_var 0) sa_nil)))
    (ss_cons (ss_ret (se_call F0 (k_stands T) (sa_cons (se_var 0) (sa_cons (se_var 1) sa_nil))))
    ss_nil))
theorem k_check_plan (T : Top g) : Fk g 4 "check_plan" 2 m_check_plan := by
  obtain ⟨f, fd, Fd, hm⟩ := T.d_check_plan
  refine fk_mk (j := 3) (N := N_check_plan) (ps := ["players", "plan"]) Fd hm sc_check_plan (Fd.binds fun _ _ _ _ _ _ us hl => match us, hl with | [_, _], _ => rfl) fun cdv A outer s H E F0 => ?_
  exact (ss_cons (ss_expr (se_call F0 (k_check_players T) (sa_cons (se_var 0) sa_nil)))
    (ss_cons (ss_if (st_not (st_val (se_call F0 (k_stands T) (sa_cons (se_var 0) (sa_cons (se_var 1) sa_nil))))) (ss_cons (ss_raise 2 F0 T.x_InvalidPlan PySem.F.excBase_ValueError)
    ss_nil) ss_nil)
    ss_nil))
theorem k_all_pairs (T : Top g) : Fk g 1 "all_pairs" 1 m_all_pairs := by
  obtain ⟨f, fd, Fd, hm⟩ := T.d_all_pairs
  refine fk_mk (j := 0) (N := N_all_pairs) (ps := ["players"]) Fd hm sc_all_pairs (Fd.binds fun _ _ _ _ _ _ us hl => match us, hl with | [_], _ => rfl) fun cdv A outer s H E F0 => ?_
  exact (ss_cons (ss_set .own 1 F0 (SF.own (sf_lst sa_nil)))
    (ss_cons (ss_for F0 (si_range1 F0 T.b_range (sa_cons (se_var 0) sa_nil)) (sg_name 2 F0) (ss_cons (ss_extA 1 F0 (SF.se (sf_lc [("other", 3)] N_all_pairs F0 (si_range2 F0 T.b_range (sa_cons (se_bin (ok_add F0) (se_var 2) se_int) (sa_cons (se_var 0) sa_nil))) (sg_name 3 (F0.blk _)) sq_nil (se_tup (sa_cons (se_var 2) (sa_cons (se_var 3) sa_nil))))))
    ss_nil))
    (ss_cons (ss_ret (se_var 1))
    ss_nil)))
theorem k_left_of (T : Top g) : Fk g 3 "left_of" 2 m_left_of := by
  obtain ⟨f, fd, Fd, hm⟩ := T.d_left_of
  refine fk_mk (j := 2) (N := N_left_of) (ps := ["players", "plan"]) Fd hm sc_left_of (Fd.binds fun _ _ _ _ _ _ us hl => match us, hl with | [_, _], _ => rfl) fun cdv A outer s H E F0 => ?_
  exact (ss_cons (ss_set .dat 2 F0 (SE.dat (se_call F0 (k_pairs_met T) (sa_cons (se_var 1) sa_nil))))
    (ss_cons (ss_ret (SF.se (sf_lc [("pair", 3)] N_left_of F0 (si_seq F0 (se_call F0 (k_all_pairs T) (sa_cons (se_var 0) sa_nil))) (sg_name 3 (F0.blk _)) (sq_one (st_cmp (ok_notIn (F0.blk _)) (se_var 3) (se_var 2))) (se_var 3))))
    ss_nil))
theorem k_open_list (T : Top g) : Fk g 4 "open_list" 2 m_open_list := by
  obtain ⟨f, fd, Fd, hm⟩ := T.d_open_list
  refine fk_mk (j := 3) (N := N_open_list) (ps := ["players", "plan"]) Fd hm sc_open_list (Fd.binds fun _ _ _ _ _ _ us hl => match us, hl with | [_, _], _ => rfl) fun cdv A outer s H E F0 => ?_
  exact (ss_cons (ss_set .dat 2 F0 (SE.dat (se_call F0 (k_left_of T) (sa_cons (se_var 0) (sa_cons (se_var 1) sa_nil)))))
    (ss_cons (ss_set .own 3 F0 (SF.own (sf_lst sa_nil)))
    (ss_cons (ss_for F0 (si_seq F0 (se_call F0 (k_all_pairs T) (sa_cons (se_var 0) sa_nil))) (sg_tup F0 (sgs_cons 4 F0 (sgs_cons 5 F0 sgs_nil))) (ss_cons (ss_for F0 (si_range2 F0 T.b_range (sa_cons (se_bin (ok_add F0) (se_var 5) se_int) (sa_cons (se_var 0) sa_nil))) (sg_name 6 F0) (ss_cons (ss_if (st_val (se_callB F0 T.b_all (by decide +kernel) (ok_all F0) (sa_cons (SF.se (sf_lc [("pair", 7)] N_open_list F0 (si_seq F0 (se_call F0 (k_pairs_of T) (sa_cons (se_tup (sa_cons (se_var 4) (sa_cons (se_var 5) (sa_cons (se_var 6) sa_nil)))) sa_nil))) (sg_name 7 (F0.blk _)) sq_nil (se_cmp (ok_in (F0.blk _)) (se_var 7) (se_var 2)))) sa_nil))) (ss_cons (ss_app 3 F0 (se_tup (sa_cons (se_var 4) (sa_cons (se_var 5) (sa_cons (se_var 6) sa_nil)))))
    ss_nil) ss_nil)
    ss_nil))
    ss_nil))
    (ss_cons (ss_ret (se_var 3))
    ss_nil))))
theorem k_open_threes (T : Top g) : Fk g 5 "open_threes" 2 m_open_threes := by
  obtain ⟨f, fd, Fd, hm⟩ := T.d_open_threes
  refine fk_mk (j := 4) (N := N_open_threes) (ps := ["players", "plan"]) Fd hm sc_open_threes (Fd.binds fun _ _ _ _ _ _ us hl => match us, hl with | [_, _], _ => rfl) fun cdv A outer s H E F0 => ?_
  exact (ss_cons (ss_expr (se_call F0 (k_check_plan T) (sa_cons (se_var 0) (sa_cons (se_var 1) sa_nil))))
    (ss_cons (ss_ret (se_call F0 (k_open_list T) (sa_cons (se_var 0) (sa_cons (se_var 1) sa_nil))))
    ss_nil))
theorem k_completion (T : Top g) : Fk g 5 "completion" 2 m_completion := by
  obtain ⟨f, fd, Fd, hm⟩ := T.d_completion
  refine fk_mk (j := 4) (N := N_completion) (ps := ["players", "plan"]) Fd hm sc_completion (Fd.binds fun _ _ _ _ _ _ us hl => match us, hl with | [_, _], _ => rfl) fun cdv A outer s H E F0 => ?_
  exact (ss_cons (ss_expr (se_call F0 (k_check_plan T) (sa_cons (se_var 0) (sa_cons (se_var 1) sa_nil))))
    (ss_cons (ss_set .dat 2 F0 (SE.dat (se_call F0 (k_open_list T) (sa_cons (se_var 0) (sa_cons (se_var 1) sa_nil)))))
    (ss_cons (ss_while 10000000000000000000000000000000000000000 F0 (st_cmp (ok_ne F0) (se_var 2) (SF.se (sf_lst sa_nil))) (ss_cons (ss_set .dat 1 F0 (SE.dat (se_callTy F0 T.b_tuple (by decide +kernel) (ok_tuple F0) (sa_cons (SF.se (sf_callB F0 T.b_sorted (by decide +kernel) (ok_sort F0) (sa_cons (se_bin (ok_add F0) (se_var 1) (se_tup (sa_cons (se_ix F0 (se_var 2) se_int) sa_nil))) sa_nil))) sa_nil))))
    (ss_cons (ss_set .dat 2 F0 (SE.dat (se_call F0 (k_open_list T) (sa_cons (se_var 0) (sa_cons (se_var 1) sa_nil)))))
    ss_nil)))
    (ss_cons (ss_ret (se_var 1))
    ss_nil))))
theorem k_greatest (T : Top g) : Fk g 3 "greatest" 1 m_greatest := by
  obtain ⟨f, fd, Fd, hm⟩ := T.d_greatest
  refine fk_mk (j := 2) (N := N_greatest) (ps := ["players"]) Fd hm sc_greatest (Fd.binds fun _ _ _ _ _ _ us hl => match us, hl with | [_], _ => rfl) fun cdv A outer s H E F0 => ?_
  exact (ss_cons (ss_expr (se_call F0 (k_check_players T) (sa_cons (se_var 0) sa_nil)))
    (ss_cons (ss_ret (se_ix F0 (SF.se (sf_lst (sa_cons se_int (sa_cons se_int (sa_cons se_int (sa_cons se_int (sa_cons se_int (sa_cons se_int (sa_cons se_int sa_nil))))))))) (se_bin (ok_sub F0) (se_var 0) se_int)))
    ss_nil))
theorem k__law_cell_at (T : Top g) : Fk g 1 "_law_cell_at" 2 (m__law_cell_at g.wd.ns) := by
  obtain ⟨f, fd, Fd, hm⟩ := T.d__law_cell_at
  refine fk_mk (j := 0) (N := N__law_cell_at) (ps := ["script", "k"]) Fd hm sc__law_cell_at (Fd.binds fun _ _ _ _ _ _ us hl => match us, hl with | [_, _], _ => rfl) fun cdv A outer s H E F0 => ?_
  exact (ss_cons (ss_if (st_cmp (ok_lt F0) (se_var 1) (se_callB F0 T.b_len PySem.boot_len (ok_lenS F0) (sa_cons (se_var 0) sa_nil))) (ss_cons (ss_ret (se_ixS F0 (se_var 0) (se_var 1)))
    ss_nil) ss_nil)
    (ss_cons (ss_if (st_cmp (ok_eqS F0) (se_var 0) (SF.se (sf_lst sa_nil))) (ss_cons (ss_ret se_int)
    ss_nil) ss_nil)
    (ss_cons (ss_set .dat 2 F0 (SE.dat (se_ixS F0 (se_var 0) (se_bin (ok_mod F0) (se_var 1) (se_callB F0 T.b_len PySem.boot_len (ok_lenS F0) (sa_cons (se_var 0) sa_nil))))))
    (ss_cons (ss_for F0 (si_range1 F0 T.b_range (sa_cons (se_callB F0 T.b_min (by decide +kernel) (ok_min2 F0) (sa_cons (se_bin (ok_fdiv F0) (se_var 1) (se_callB F0 T.b_len PySem.boot_len (ok_lenS F0) (sa_cons (se_var 0) sa_nil))) (sa_cons se_int sa_nil))) sa_nil)) (sg_name 3 F0) (ss_cons (ss_set .dat 2 F0 (SE.dat (se_bin (ok_fdiv F0) (se_var 2) se_int)))
    ss_nil))
    (ss_cons (ss_ret (se_bin (ok_add F0) (se_bin (ok_add F0) (se_bin (ok_mul F0) (se_ixS F0 (se_var 0) (se_bin (ok_mod F0) (se_var 1) (se_callB F0 T.b_len PySem.boot_len (ok_lenS F0) (sa_cons (se_var 0) sa_nil)))) se_int) (se_var 1)) (se_bin (ok_mul F0) (se_var 2) se_int)))
    ss_nil)))))
theorem k__law_mixed (T : Top g) : Fk g 2 "_law_mixed" 3 (m__law_mixed g.wd.ns) := by
  obtain ⟨f, fd, Fd, hm⟩ := T.d__law_mixed
  refine fk_mk (j := 1) (N := N__law_mixed) (ps := ["script", "k", "many"]) Fd hm sc__law_mixed (Fd.binds fun _ _ _ _ _ _ us hl => match us, hl with | [_, _, _], _ => rfl) fun cdv A outer s H E F0 => ?_
  exact (ss_cons (ss_set .dat 3 F0 (SE.dat (se_bin (ok_mod F0) (se_bin (ok_add F0) (se_bin (ok_add F0) (se_bin (ok_mul F0) (se_call F0 (k__law_cell_at T) (sa_cons (se_var 0) (sa_cons (se_var 1) sa_nil))) se_int) (se_bin (ok_mul F0) se_int (se_var 1))) se_int) se_int)))
    (ss_cons (ss_ret (se_bin (ok_mod F0) (se_bin (ok_mod F0) (se_bin (ok_mod F0) (se_bin (ok_pow F0) (se_var 3) se_int) se_int) se_int) (se_var 2)))
    ss_nil))
theorem k__law_draw (T : Top g) : Fk g 3 "_law_draw" 3 (m__law_draw g.wd.ns) := by
  obtain ⟨f, fd, Fd, hm⟩ := T.d__law_draw
  refine fk_mk (j := 2) (N := N__law_draw) (ps := ["script", "town", "many"]) Fd hm sc__law_draw (Fd.binds fun _ _ _ _ _ _ us hl => match us, hl with | [_, _, _], _ => rfl) fun cdv A outer s H E F0 => ?_
  exact (ss_cons (ss_twApp 1 F0)
    (ss_cons (ss_ret (se_call F0 (k__law_mixed T) (sa_cons (se_var 0) (sa_cons (se_lenTw 1 F0 T.b_len) (sa_cons (se_var 2) sa_nil)))))
    ss_nil))
theorem k__law_pick (T : Top g) : Fk g 4 "_law_pick" 3 (m__law_pick g.wd.ns) := by
  obtain ⟨f, fd, Fd, hm⟩ := T.d__law_pick
  refine fk_mk (j := 3) (N := N__law_pick) (ps := ["script", "town", "some"]) Fd hm sc__law_pick (Fd.binds fun _ _ _ _ _ _ us hl => match us, hl with | [_, _, _], _ => rfl) fun cdv A outer s H E F0 => ?_
  exact (ss_cons (ss_ret (se_ix F0 (se_var 2) (se_call F0 (k__law_draw T) (sa_cons (se_var 0) (sa_cons (se_var 1) (sa_cons (se_callB F0 T.b_len PySem.boot_len (ok_len F0) (sa_cons (se_var 2) sa_nil)) sa_nil))))))
    ss_nil)
theorem k__law_same_number (T : Top g) : Fk g 1 "_law_same_number" 2 m__law_same_number := by
  obtain ⟨f, fd, Fd, hm⟩ := T.d__law_same_number
  refine fk_mk (j := 0) (N := N__law_same_number) (ps := ["got", "due"]) Fd hm sc__law_same_number (Fd.binds fun _ _ _ _ _ _ us hl => match us, hl with | [_, _], _ => rfl) fun cdv A outer s H E F0 => ?_
  exact (ss_cons (ss_ret (se_and (se_isT .int F0 T.b_isinstance T.b_int (by decide +kernel) (se_var 0)) (se_and (se_not (se_isT .bool F0 T.b_isinstance T.b_bool (by decide +kernel) (se_var 0))) (se_one (se_cmp (ok_eq F0) (se_var 0) (se_var 1))))))
    ss_nil)
theorem k__law_every_three (T : Top g) : Fk g 1 "_law_every_three" 1 m__law_every_three := by
  obtain ⟨f, fd, Fd, hm⟩ := T.d__law_every_three
  refine fk_mk (j := 0) (N := N__law_every_three) (ps := ["n"]) Fd hm sc__law_every_three (Fd.binds fun _ _ _ _ _ _ us hl => match us, hl with | [_], _ => rfl) fun cdv A outer s H E F0 => ?_
  exact (ss_cons (ss_set .own 1 F0 (SF.own (sf_lst sa_nil)))
    (ss_cons (ss_for F0 (si_range1 F0 T.b_range (sa_cons (se_var 0) sa_nil)) (sg_name 2 F0) (ss_cons (ss_for F0 (si_range2 F0 T.b_range (sa_cons (se_bin (ok_add F0) (se_var 2) se_int) (sa_cons (se_var 0) sa_nil))) (sg_name 3 F0) (ss_cons (ss_extA 1 F0 (SF.se (sf_lc [("c", 4)] N__law_every_three F0 (si_range2 F0 T.b_range (sa_cons (se_bin (ok_add F0) (se_var 3) se_int) (sa_cons (se_var 0) sa_nil))) (sg_name 4 (F0.blk _)) sq_nil (se_tup (sa_cons (se_var 2) (sa_cons (se_var 3) (sa_cons (se_var 4) sa_nil)))))))
    ss_nil))
    ss_nil))
    (ss_cons (ss_ret (se_var 1))
    ss_nil)))
theorem k__law_clash (T : Top g) : Fk g 1 "_law_clash" 2 m__law_clash := by
  obtain ⟨f, fd, Fd, hm⟩ := T.d__law_clash
  refine fk_mk (j := 0) (N := N__law_clash) (ps := ["one", "other"]) Fd hm sc__law_clash (Fd.binds fun _ _ _ _ _ _ us hl => match us, hl with | [_, _], _ => rfl) fun cdv A outer s H E F0 => ?_
  exact (ss_cons (ss_ret (se_cmp (ok_gt F0) (se_callB F0 T.b_len PySem.boot_len (ok_len F0) (sa_cons (SF.se (sf_lc [("player", 2)] N__law_clash F0 (si_seq F0 (se_var 0)) (sg_name 2 (F0.blk _)) (sq_one (st_cmp (ok_in (F0.blk _)) (se_var 2) (se_var 1))) (se_var 2))) sa_nil)) se_int))
    ss_nil)
theorem k__law_some_plan (T : Top g) : Fk g 5 "_law_some_plan" 4 (m__law_some_plan g.wd.ns) := by
  obtain ⟨f, fd, Fd, hm⟩ := T.d__law_some_plan
  refine fk_mk (j := 4) (N := N__law_some_plan) (ps := ["script", "town", "n", "most"]) Fd hm sc__law_some_plan (Fd.binds fun _ _ _ _ _ _ us hl => match us, hl with | [_, _, _, _], _ => rfl) fun cdv A outer s H E F0 => ?_
  exact (ss_cons (ss_parT .dat 4 .own 5 F0 (SE.dat (se_call F0 (k__law_every_three T) (sa_cons (se_var 2) sa_nil))) (SF.own (sf_lst sa_nil)) (sgs_cons 4 F0 (sgs_cons 5 F0 sgs_nil)))
    (ss_cons (ss_for F0 (si_range1 F0 T.b_range (sa_cons (se_call F0 (k__law_draw T) (sa_cons (se_var 0) (sa_cons (se_var 1) (sa_cons (se_bin (ok_add F0) (se_var 3) se_int) sa_nil)))) sa_nil)) (sg_name 6 F0) (ss_cons (ss_if (st_cmp (ok_ne F0) (se_var 4) (SF.se (sf_lst sa_nil))) (ss_cons (ss_app 5 F0 (se_call F0 (k__law_pick T) (sa_cons (se_var 0) (sa_cons (se_var 1) (sa_cons (se_var 4) sa_nil)))))
    (ss_cons (ss_lcF (slc [("three", 7)] N__law_some_plan F0 (si_seq F0 (se_var 4)) (sg_name 7 (F0.blk _)) (sq_one (st_not (st_val (se_call (F0.blk _) (k__law_clash T) (sa_cons (se_var 7) (sa_cons (se_ix (F0.blk _) (se_var 5) (se_neg se_int)) sa_nil)))))) (se_var 7)))
    ss_nil)) ss_nil)
    ss_nil))
    (ss_cons (ss_ret (se_callTy F0 T.b_tuple (by decide +kernel) (ok_tuple F0) (sa_cons (SF.se (sf_callB F0 T.b_sorted (by decide +kernel) (ok_sort F0) (sa_cons (se_var 5) sa_nil))) sa_nil)))
    ss_nil)))
theorem k__law_which (T : Top g) : Kw g "_law_which" m__law_which := by
  obtain ⟨f, fd, Fd, hm⟩ := T.d__law_which
  refine kw_mk (N := N__law_which) Fd hm sc__law_which (Fd.binds fun _ _ _ _ _ _ us hl => match us, hl with | [_], _ => rfl) fun a c oe cdv A outer s H F0 => ?_
  have EX := exall_x (a := a) (c := c) T.xall
  exact (ss_cons (ss_setW .own 1 F0 (SF.own (sf_lst (sa_cons (se_isX 0 0 F0 EX T.b_isinstance T.x_InvalidPlayers.gC) (sa_cons (se_isX 1 0 F0 EX T.b_isinstance T.x_InvalidThree.gC) (sa_cons (se_isX 2 0 F0 EX T.b_isinstance T.x_InvalidPlan.gC) sa_nil))))))
    (ss_cons (ss_extW 1 F0 (SF.se (sf_lst (sa_cons (se_isX 3 0 F0 EX T.b_isinstance T.x_InvalidPlayer.gC) (sa_cons (se_isX 4 0 F0 EX T.b_isinstance T.x_InvalidFour.gC) (sa_cons (se_isX 5 0 F0 EX T.b_isinstance T.x_InvalidNames.gC) sa_nil))))))
    (ss_cons (ss_extW 1 F0 (SF.se (sf_lst (sa_cons (se_isX 6 0 F0 EX T.b_isinstance T.x_NoPlan.gC) (sa_cons (se_isX 7 0 F0 EX T.b_isinstance T.x_NoDays.gC) (sa_cons (se_isX 8 0 F0 EX T.b_isinstance T.x_MetAlready.gC) sa_nil))))))
    (ss_cons (ss_extW 1 F0 (SF.se (sf_lst (sa_cons (se_isX 9 0 F0 EX T.b_isinstance T.x_NothingToUndo.gC) (sa_cons (se_isX 10 0 F0 EX T.b_isinstance T.x_ParseError.gC) sa_nil)))))
    (ss_cons (ss_if (SW.st (sw_or (st_cmp (ok_neW F0) (se_countW F0 (se_var 1) se_bl) se_int) (sw_or1 (st_not (st_val (se_isVE 0 F0 EX T.b_isinstance T.b_ValueError)))))) (ss_cons (ss_ret (se_tup (sa_cons se_str (sa_cons (se_neg se_int) sa_nil))))
    ss_nil) ss_nil)
    (ss_cons (ss_ret (se_tup (sa_cons se_str (sa_cons (se_idxW F0 (se_var 1) se_bl) sa_nil))))
    ss_nil))))))
theorem k__law_ask (T : Top g) : Fk g 6 "_law_ask" 3 m__law_ask := by
  obtain ⟨f, fd, Fd, hm⟩ := T.d__law_ask
  refine fk_mk (j := 5) (N := N__law_ask) (ps := ["what", "n", "plan"]) Fd hm sc__law_ask (Fd.binds fun _ _ _ _ _ _ us hl => match us, hl with | [_, _, _], _ => rfl) fun cdv A outer s H E F0 => ?_
  exact (ss_cons (ss_try 3 F0 (k__law_which T) T.plan (fun _ F1 => (ss_cons (ss_ret (se_callL F1 (fks_cons F1 (k_open_threes T) (fks_cons F1 (k_completion T) fks_nil)) (se_var 0) (sa_cons (se_var 1) (sa_cons (se_var 2) sa_nil))))
    ss_nil)))
    ss_nil)
theorem fn_law (T : Top g) {f : Addr} {fd : FuncData} (Fd : Fun g.wd.K "law" "law" st_law f fd) : FnOk g.P g.w g.wd.K g.mg g.base (L2.CX g.P g.w) 7 f fd ["script"] (spD g.wd 1 (m_law g.wd.ns)) := by
  refine fn_mk (j := 6) (N := N_law) (ps := ["script"]) Fd sc_law fun cdv A outer s H E F0 => ?_
  exact (ss_cons (ss_town 1 F0)
    (ss_cons (ss_set .dat 2 F0 (SE.dat (se_bin (ok_add F0) se_int (se_call F0 (k__law_draw T) (sa_cons (se_var 0) (sa_cons (se_var 1) (sa_cons se_int sa_nil)))))))
    (ss_cons (ss_set .dat 3 F0 (SE.dat (se_call F0 (k__law_some_plan T) (sa_cons (se_var 0) (sa_cons (se_var 1) (sa_cons (se_var 2) (sa_cons se_int sa_nil)))))))
    (ss_cons (ss_lc (slc [("three", 5)] N_law F0 (si_seq F0 (se_call F0 (k__law_every_three T) (sa_cons (se_var 2) sa_nil))) (sg_name 5 (F0.blk _)) (sq_one (st_cmp (ok_eq (F0.blk _)) (SF.se (sf_lc [("one", 6)] N_law (F0.blk _) (si_seq (F0.blk _) (se_var 3)) (sg_name 6 ((F0.blk _).blk _)) (sq_one (st_val (se_call ((F0.blk _).blk _) (k__law_clash T) (sa_cons (se_var 6) (sa_cons (se_var 5) sa_nil))))) se_int)) (SF.se (sf_lst sa_nil)))) (se_var 5)))
    (ss_cons (ss_if (st_cmp (ok_ne F0) (se_call F0 (k__law_ask T) (sa_cons se_int (sa_cons (se_var 2) (sa_cons (se_var 3) sa_nil)))) (se_var 4)) (ss_cons (ss_ret se_bl)
    ss_nil) ss_nil)
    (ss_cons (ss_set .own 7 F0 (SF.own (sf_callTy F0 T.b_list (by decide +kernel) (ok_list F0) (sa_cons (se_var 3) sa_nil))))
    (ss_cons (ss_while 10000000000000000000000000000000000000000 F0 (st_cmp (ok_ne F0) (se_var 4) (SF.se (sf_lst sa_nil))) (ss_cons (ss_app 7 F0 (se_ix F0 (se_var 4) se_int))
    (ss_cons (ss_lcF (slc [("three", 5)] N_law F0 (si_seq F0 (se_var 4)) (sg_name 5 (F0.blk _)) (sq_one (st_not (st_val (se_call (F0.blk _) (k__law_clash T) (sa_cons (se_var 5) (sa_cons (se_ix (F0.blk _) (se_var 7) (se_neg se_int)) sa_nil)))))) (se_var 5)))
    ss_nil)))
    (ss_cons (ss_setB 8 F0 (se_callTy F0 T.b_tuple (by decide +kernel) (ok_tuple F0) (sa_cons (SF.se (sf_callB F0 T.b_sorted (by decide +kernel) (ok_sort F0) (sa_cons (se_var 7) sa_nil))) sa_nil)))
    (ss_cons (ss_if (SW.st (sw_or (st_cmp (ok_ne F0) (se_call F0 (k__law_ask T) (sa_cons se_int (sa_cons (se_var 2) (sa_cons (se_var 3) sa_nil)))) (se_var 8)) (sw_or (st_cmp (ok_isNot F0) (se_call F0 (k_is_plan T) (sa_cons (se_var 2) (sa_cons (se_var 8) sa_nil))) se_bl) (sw_or1 (st_cmp (ok_ne F0) (se_call F0 (k__law_ask T) (sa_cons se_int (sa_cons (se_var 2) (sa_cons (se_var 8) sa_nil)))) (SF.se (sf_lst sa_nil))))))) (ss_cons (ss_ret se_bl)
    ss_nil) ss_nil)
    (ss_cons (ss_set .dat 9 F0 (SE.dat (se_ix F0 (SF.se (sf_lst (sa_cons se_int (sa_cons se_int (sa_cons se_int (sa_cons se_int (sa_cons se_int (sa_cons se_int (sa_cons se_int sa_nil))))))))) (se_bin (ok_sub F0) (se_var 2) se_int))))
    (ss_cons (ss_if (SW.st (sw_or (st_not (st_val (se_call F0 (k__law_same_number T) (sa_cons (se_call F0 (k_greatest T) (sa_cons (se_var 2) sa_nil)) (sa_cons (se_var 9) sa_nil))))) (sw_or1 (st_cmp (ok_gt F0) (se_callB F0 T.b_len PySem.boot_len (ok_len F0) (sa_cons (se_var 8) sa_nil)) (se_var 9))))) (ss_cons (ss_ret se_bl)
    ss_nil) ss_nil)
    (ss_cons (ss_par .own 10 .dat 11 F0 (SF.own (sf_callTy F0 T.b_list (by decide +kernel) (ok_list F0) (sa_cons (se_var 3) sa_nil))) (SE.dat (SF.se (sf_callTy F0 T.b_list (by decide +kernel) (ok_list F0) (sa_cons (se_call F0 (k__law_ask T) (sa_cons se_int (sa_cons (se_var 2) (sa_cons (se_var 3) sa_nil)))) sa_nil)))))
    (ss_cons (ss_while 10000000000000000000000000000000000000000 F0 (st_cmp (ok_ne F0) (se_var 11) (SF.se (sf_lst sa_nil))) (ss_cons (ss_app 10 F0 (se_call F0 (k__law_pick T) (sa_cons (se_var 0) (sa_cons (se_var 1) (sa_cons (se_var 11) sa_nil)))))
    (ss_cons (ss_setC 11 F0 (k__law_ask T) (sa_cons se_int (sa_cons (se_var 2) (sa_cons (se_callTy F0 T.b_tuple (by decide +kernel) (ok_tuple F0) (sa_cons (SF.se (sf_callB F0 T.b_sorted (by decide +kernel) (ok_sort F0) (sa_cons (se_var 10) sa_nil))) sa_nil)) sa_nil))))
    ss_nil)))
    (ss_cons (ss_if (SW.st (sw_or (st_cmp (ok_gt F0) (se_callB F0 T.b_len PySem.boot_len (ok_len F0) (sa_cons (se_var 10) sa_nil)) (se_var 9)) (sw_or1 (st_cmp (ok_ne F0) (se_call F0 (k__law_ask T) (sa_cons se_int (sa_cons (se_var 2) (sa_cons (se_callTy F0 T.b_tuple (by decide +kernel) (ok_tuple F0) (sa_cons (SF.se (sf_callB F0 T.b_sorted (by decide +kernel) (ok_sort F0) (sa_cons (se_var 10) sa_nil))) sa_nil)) sa_nil)))) (se_callTy F0 T.b_tuple (by decide +kernel) (ok_tuple F0) (sa_cons (SF.se (sf_callB F0 T.b_sorted (by decide +kernel) (ok_sort F0) (sa_cons (se_var 10) sa_nil))) sa_nil)))))) (ss_cons (ss_ret se_bl)
    ss_nil) ss_nil)
    (ss_cons (ss_ret (se_cmp (ok_eq F0) (SF.se (sf_lc [("what", 12)] N_law F0 (si_seq F0 (se_tup (sa_cons se_int (sa_cons se_int sa_nil)))) (sg_name 12 (F0.blk _)) sq_nil (se_call (F0.blk _) (k__law_ask T) (sa_cons (se_var 12) (sa_cons (se_var 2) (sa_cons (se_tup (sa_cons (se_tup (sa_cons se_int (sa_cons se_int (sa_cons se_int sa_nil)))) (sa_cons (se_tup (sa_cons se_int (sa_cons se_int (sa_cons se_int sa_nil)))) sa_nil))) sa_nil)))))) (se_bin (ok_mul F0) (SF.se (sf_lst (sa_cons (se_tup (sa_cons se_str (sa_cons se_int sa_nil))) sa_nil))) se_int)))
    ss_nil)))))))))))))))
end
structure TopK (K : PySem.W.Frag) : Prop where
  b_ValueError : PySem.W.nsIn K mainGlobals "ValueError" = some none
  b_all : PySem.W.nsIn K mainGlobals "all" = some none
  b_bool : PySem.W.nsIn K mainGlobals "bool" = some none
  b_int : PySem.W.nsIn K mainGlobals "int" = some none
  b_isinstance : PySem.W.nsIn K mainGlobals "isinstance" = some none
  b_len : PySem.W.nsIn K mainGlobals "len" = some none
  b_list : PySem.W.nsIn K mainGlobals "list" = some none
  b_min : PySem.W.nsIn K mainGlobals "min" = some none
  b_range : PySem.W.nsIn K mainGlobals "range" = some none
  b_set : PySem.W.nsIn K mainGlobals "set" = some none
  b_sorted : PySem.W.nsIn K mainGlobals "sorted" = some none
  b_tuple : PySem.W.nsIn K mainGlobals "tuple" = some none
  b_zip : PySem.W.nsIn K mainGlobals "zip" = some none
  x_InvalidFour : ExIn K 4
  x_InvalidNames : ExIn K 5
  x_InvalidPlan : ExIn K 2
  x_InvalidPlayer : ExIn K 3
  x_InvalidPlayers : ExIn K 0
  x_InvalidThree : ExIn K 1
  x_MetAlready : ExIn K 8
  x_NoDays : ExIn K 7
  x_NoPlan : ExIn K 6
  x_NothingToUndo : ExIn K 9
  x_ParseError : ExIn K 10
  xall : exAllB K = true
  plan : PlIn K
  d_is_integer : DefIn K "is_integer" st_is_integer
  d_check_players : DefIn K "check_players" st_check_players
  d_fits : DefIn K "fits" st_fits
  d_pairs_of : DefIn K "pairs_of" st_pairs_of
  d_pairs_met : DefIn K "pairs_met" st_pairs_met
  d_stands : DefIn K "stands" st_stands
  d_is_plan : DefIn K "is_plan" st_is_plan
  d_check_plan : DefIn K "check_plan" st_check_plan
  d_all_pairs : DefIn K "all_pairs" st_all_pairs
  d_left_of : DefIn K "left_of" st_left_of
  d_open_list : DefIn K "open_list" st_open_list
  d_open_threes : DefIn K "open_threes" st_open_threes
  d_completion : DefIn K "completion" st_completion
  d_greatest : DefIn K "greatest" st_greatest
  d__law_cell_at : DefIn K "_law_cell_at" st__law_cell_at
  d__law_mixed : DefIn K "_law_mixed" st__law_mixed
  d__law_draw : DefIn K "_law_draw" st__law_draw
  d__law_pick : DefIn K "_law_pick" st__law_pick
  d__law_same_number : DefIn K "_law_same_number" st__law_same_number
  d__law_every_three : DefIn K "_law_every_three" st__law_every_three
  d__law_clash : DefIn K "_law_clash" st__law_clash
  d__law_some_plan : DefIn K "_law_some_plan" st__law_some_plan
  d__law_which : DefIn K "_law_which" st__law_which
  d__law_ask : DefIn K "_law_ask" st__law_ask
  d_law : DefIn K "law" st_law
theorem top_of {K : PySem.W.Frag} {h : Heap} {mg : Str → Option Value} {sa : Addr} {ns : List Int} {P : Program} {w : World} {base : Heap} (T : TopK K) (X : K.In h) (G : h.Ns mainGlobals mg) : Top ⟨wdOf K sa ns, P, w, mg, base⟩ where
  b_ValueError := PySem.W.mg_none_of X G T.b_ValueError
  b_all := PySem.W.mg_none_of X G T.b_all
  b_bool := PySem.W.mg_none_of X G T.b_bool
  b_int := PySem.W.mg_none_of X G T.b_int
  b_isinstance := PySem.W.mg_none_of X G T.b_isinstance
  b_len := PySem.W.mg_none_of X G T.b_len
  b_list := PySem.W.mg_none_of X G T.b_list
  b_min := PySem.W.mg_none_of X G T.b_min
  b_range := PySem.W.mg_none_of X G T.b_range
  b_set := PySem.W.mg_none_of X G T.b_set
  b_sorted := PySem.W.mg_none_of X G T.b_sorted
  b_tuple := PySem.W.mg_none_of X G T.b_tuple
  b_zip := PySem.W.mg_none_of X G T.b_zip
  x_InvalidFour := T.x_InvalidFour.top X G
  x_InvalidNames := T.x_InvalidNames.top X G
  x_InvalidPlan := T.x_InvalidPlan.top X G
  x_InvalidPlayer := T.x_InvalidPlayer.top X G
  x_InvalidPlayers := T.x_InvalidPlayers.top X G
  x_InvalidThree := T.x_InvalidThree.top X G
  x_MetAlready := T.x_MetAlready.top X G
  x_NoDays := T.x_NoDays.top X G
  x_NoPlan := T.x_NoPlan.top X G
  x_NothingToUndo := T.x_NothingToUndo.top X G
  x_ParseError := T.x_ParseError.top X G
  xall := exAll_of T.xall
  plan := T.plan.top X G
  d_is_integer := T.d_is_integer.top X G
  d_check_players := T.d_check_players.top X G
  d_fits := T.d_fits.top X G
  d_pairs_of := T.d_pairs_of.top X G
  d_pairs_met := T.d_pairs_met.top X G
  d_stands := T.d_stands.top X G
  d_is_plan := T.d_is_plan.top X G
  d_check_plan := T.d_check_plan.top X G
  d_all_pairs := T.d_all_pairs.top X G
  d_left_of := T.d_left_of.top X G
  d_open_list := T.d_open_list.top X G
  d_open_threes := T.d_open_threes.top X G
  d_completion := T.d_completion.top X G
  d_greatest := T.d_greatest.top X G
  d__law_cell_at := T.d__law_cell_at.top X G
  d__law_mixed := T.d__law_mixed.top X G
  d__law_draw := T.d__law_draw.top X G
  d__law_pick := T.d__law_pick.top X G
  d__law_same_number := T.d__law_same_number.top X G
  d__law_every_three := T.d__law_every_three.top X G
  d__law_clash := T.d__law_clash.top X G
  d__law_some_plan := T.d__law_some_plan.top X G
  d__law_which := T.d__law_which.top X G
  d__law_ask := T.d__law_ask.top X G
  d_law := T.d_law.top X G
theorem law_mk {P : Program} {w : World} {K : PySem.W.Frag} {h : Heap} {mg : Str → Option Value} {fa : Addr} (hm : ∀ ns : List Int, ns.length ≤ 63 → ∃ S', m_law ns [.sc] ⟨none, []⟩ = some (.ok (.d (.bool true)), S')) (T : TopK K) (X : K.In h) (G : h.Ns mainGlobals mg) (hfa : mg "law" = some (.ref fa)) :
    ∃ fd : FuncData, (∀ (s : Shared) (u : Value), BindsTo s fd ⟨[u], []⟩ [("script", u)]) ∧ ∀ base : Heap, K.In base → base.Ns mainGlobals mg → FnOk P w K mg base (L2.CX P w) 7 fa fd ["script"] (spLaw K 63) := by
  obtain ⟨f, oc, od, an, osl, kV, doc, pm, cdv, ct, a, l, c, k⟩ := T.d_law
  have e := hfa.symm.trans (PySem.W.mg_of X G a)
  cases e
  exact ⟨_, fun s u => .of_eq rfl, fun base X' G' => law_fn (fun sa ns => fn_law (top_of (sa := sa) (ns := ns) T X' G') (fun_mk l c k)) hm⟩
end K02
set_option maxHeartbeats 1000000
namespace K02
open PySem DL PM PySem.W
abbrev C := Option Cell
def E (n : Nat) (l : List T3) (c4 c7 c8 c9 c10 c11 : C) : En := [some (.u .sc), some (.u .tw), some (.u (.d (.int n))), some (.u (.d (eP l))), c4, none, none, c7, c8, c9, c10, c11, none]
variable {n : Nat} {l : List T3} {S : Sto}
abbrev LT (l : List T3) : C := some (.u (.d (.list (l.map eT))))
abbrev OW (l : List T3) : C := some (.own (l.map eT))
theorem ask0 (hn : 3 ≤ n ∧ n ≤ 9) (hs : standsB n l = true) : m__law_ask [.d (.int 0), .d (.int n), .d (eP l)] S = some (.ok (.d (.list ((openL n l).map eT))), S) := by
  have e := ev_open_threes n hn l (full_len hn.2 (stands_iff.mp hs).1) hs S
  refine ask_ok ?_
  show eCallL [m_open_threes, m_completion] 2 (eVar 0) _ _ S = _
  have h0 : L2.atI [m_open_threes, m_completion] 0 = some m_open_threes := rfl
  simp [h0, e]
theorem ask1 (hn : 3 ≤ n ∧ n ≤ 9) (hs : standsB n l = true) : m__law_ask [.d (.int 1), .d (.int n), .d (eP l)] S = some (.ok (.d (eP (complT n l))), S) := by
  have e := ev_completion n hn l hs S
  refine ask_ok ?_
  show eCallL [m_open_threes, m_completion] 2 (eVar 0) _ _ S = _
  have h0 : L2.atI [m_open_threes, m_completion] 1 = some m_completion := rfl
  simp [h0, e]
theorem l3 (hn : 3 ≤ n ∧ n ≤ 9) (g : Good n l) (hl : l.length ≤ 20) : s3_law (E n l none none none none none none) S = some (.nx, E n l (LT (openL n l)) none none none none none, S) := by
  have hL : LIM = 1000000 := rfl
  have e1 := ev_every_three n hn S
  have ht := threes_len hn.2
  have el : eLc (itSeq (eCall m__law_every_three 1 (aCons (eVar 2) aNil))) [5] (.one 5) (tOf (eOp (cD eqP) (eLc (itSeq (eVar 3)) [6] (.one 6) (tOf (eCall m__law_clash 2 (aCons (eVar 6) (aCons (eVar 5) aNil)))) (eC (.int 1))) (eLst aNil))) (eVar 5) (E n l none none none none none none) S = some (.ok (.d (.list ((openL n l).map eT))), S) := by
    rw [open_clash g.ok]
    refine lc_if eT (threesL n) (fun t => l.all fun s => !clashB s t) eT ?_ (by omega) (fun t ht => ⟨[(5, eT t)], rfl, ?_, fun _ => rfl⟩)
    · have h2 : eVar 2 (E n l none none none none none none) S = some (.ok (.d (.int n)), S) := rfl
      simp only [ap_itSeq, ap_eCall, ap_aCons, ap_aNil, h2, bnd_ok, List.length_cons, List.length_nil, Nat.zero_add, if_true, e1]
    · have e2 : eLc (itSeq (eVar 3)) [6] (.one 6) (tOf (eCall m__law_clash 2 (aCons (eVar 6) (aCons (eVar 5) aNil)))) (eC (.int 1)) (setD (wipeE (E n l none none none none none none) [5]) [(5, eT t)]) S = some (.ok (.d (.list ((l.filter fun s => clashB s t).map fun _ => .int 1))), S) := by
        refine lc_if eT l (fun s => clashB s t) (fun _ => .int 1) rfl (by omega) (fun s hs => ⟨[(6, eT s)], rfl, ?_, fun _ => rfl⟩)
        have h6 : eVar 6 (setD (wipeE (setD (wipeE (E n l none none none none none none) [5]) [(5, eT t)]) [6]) [(6, eT s)]) S = some (.ok (.d (eT s)), S) := rfl
        have h5 : eVar 5 (setD (wipeE (setD (wipeE (E n l none none none none none none) [5]) [(5, eT t)]) [6]) [(6, eT s)]) S = some (.ok (.d (eT t)), S) := rfl
        simp only [ap_tOf, ap_eCall, ap_aCons, ap_aNil, h5, h6, bnd_ok, List.length_cons, List.length_nil, Nat.zero_add, Nat.reduceAdd, if_true, ev_clash]
      have e3 : eqP (.list ((l.filter fun s => clashB s t).map fun _ => .int 1)) (.list []) = some (l.all fun s => !clashB s t) := by
        rw [eq_nil]
        congr 1
        rw [Bool.eq_iff_iff, decide_eq_true_iff, List.filter_eq_nil_iff, List.all_eq_true]
        simp
      simp only [ap_tOf, ap_eOp, e2, bnd_ok, ap_eLst, ap_aNil, sp_allD0, List.length_nil, Nat.zero_le, if_true, sp_cD, e3]
  unfold s3_law
  rw [ap_sSet, el]
  rfl
theorem l4 (hn : 3 ≤ n ∧ n ≤ 9) (hs : standsB n l = true) : s4_law (E n l (LT (openL n l)) none none none none none) S = some (.nx, E n l (LT (openL n l)) none none none none none, S) := by
  have e1 := ask0 (S := S) hn hs
  have e2 : neP (.list ((openL n l).map eT)) (.list ((openL n l).map eT)) = some false := by
    rw [neP_list eqe_T 1 (by decide) depth_T]
    simp
  unfold s4_law
  rw [ap_sIf]
  simp [E, e1, e2]
theorem l5 (c4 : C) : s5_law (E n l c4 none none none none none) S = some (.nx, E n l c4 (OW l) none none none none, S) := by
  unfold s5_law
  simp [E, eP]
def hBody : SemS := (sSeq (sApp 7 (eOp oIx (eVar 4) (eC (.int 0))))
  (sSeq (sAsgF 4 (eLc (itSeq (eVar 4)) [5] (.one 5) (tNotS (tOf (eCall m__law_clash 2 (aCons (eVar 5) (aCons (eOp oIx (eVar 7) (eNeg (eC (.int 1)))) aNil))))) (eVar 5)))
  sNil))
theorem open_next {l : List T3} {t : T3} (g : Good n (l ++ [t])) : (openL n l).filter (fun x => !clashB x t) = openL n (l ++ [t]) := by
  have hok : ∀ s ∈ l, okT n s = true := fun s hs => g.ok s (by simp [hs])
  rw [open_clash hok, open_clash g.ok, List.filter_filter]
  refine List.filter_congr fun x hx => ?_
  rw [List.all_append, Bool.and_comm]
  congr 1
  simp only [List.all_cons, List.all_nil, Bool.and_true]
  rw [clash_comm (mem_threes.mp hx) (g.ok t (by simp))]
theorem h_loop (hn : 3 ≤ n ∧ n ≤ 9) : ∀ (k fuel : Nat) (h : List T3), Good n h → 20 < h.length + k → k < fuel → whGo (tOf (eOp (cD neP) (eVar 4) (eLst aNil))) hBody fuel (E n l (LT (openL n h)) (OW h) none none none none) S = some (.nx, E n l (LT []) (OW (complH n k h)) none none none none, S)
  | 0, _, h, g, hk, _ => by
    have := full_len hn.2 g
    omega
  | k + 1, 0, _, _, _, hf => absurd hf (by omega)
  | k + 1, fuel + 1, h, g, hk, hf => by
    have hL : LIM = 1000000 := rfl
    have hlen := full_len hn.2 g
    have ht3 := threes_len hn.2
    have et := wh_test (i := 4) (δ := E n l (LT (openL n h)) (OW h) none none none none) (S := S) eT (openL n h) rfl
    cases eo : openL n h with
    | nil =>
      rw [eo] at et
      rw [wh_stop et]
      unfold complH
      rw [eo]
    | cons t r =>
      have gt := open_good g (t := t) (by rw [eo]; exact List.mem_cons_self)
      have hle : (t :: r).length ≤ 84 := by
        rw [← eo, openL_eq]
        exact Nat.le_trans (List.length_filter_le _ _) ht3
      rw [eo] at et
      have hb : hBody (E n l (LT (t :: r)) (OW h) none none none none) S = some (.nx, E n l (LT (openL n (h ++ [t]))) (OW (h ++ [t])) none none none none, S) := by
        refine seq_to (δ1 := E n l (LT (t :: r)) (OW (h ++ [t])) none none none none) (S1 := S) ?_ (seq_to (δ1 := E n l (LT (openL n (h ++ [t]))) (OW (h ++ [t])) none none none none) (S1 := S) ?_ rfl)
        · have h7 : (E n l (LT (t :: r)) (OW h) none none none none)[7]? = some (some (.own (h.map eT))) := rfl
          have h4 : eOp oIx (eVar 4) (eC (.int 0)) (E n l (LT (t :: r)) (OW h) none none none none) S = some (.ok (.d (eT t)), S) := by
            have : eVar 4 (E n l (LT (t :: r)) (OW h) none none none none) S = some (.ok (.d (.list (eT t :: r.map eT))), S) := rfl
            simp only [ap_eOp, this, bnd_ok, ap_eC, sp_oIx1, at_zero]
          rw [ap_sApp, h7]
          simp only [h4]
          rw [if_pos (by rw [List.length_map]; omega)]
          simp [E]
        · have el : eLc (itSeq (eVar 4)) [5] (.one 5) (tNotS (tOf (eCall m__law_clash 2 (aCons (eVar 5) (aCons (eOp oIx (eVar 7) (eNeg (eC (.int 1)))) aNil))))) (eVar 5) (bor (E n l (LT (t :: r)) (OW (h ++ [t])) none none none none)) S = some (.ok (.d (.list (((t :: r).filter fun x => !clashB x t).map eT))), S) := by
            refine lc_if eT (t :: r) (fun x => !clashB x t) eT rfl (by omega) (fun x hx => ⟨[(5, eT x)], rfl, ?_, fun _ => rfl⟩)
            have h5 : eVar 5 (setD (wipeE (bor (E n l (LT (t :: r)) (OW (h ++ [t])) none none none none)) [5]) [(5, eT x)]) S = some (.ok (.d (eT x)), S) := rfl
            have h7 : eVar 7 (setD (wipeE (bor (E n l (LT (t :: r)) (OW (h ++ [t])) none none none none)) [5]) [(5, eT x)]) S = some (.ok (.d (.list ((h ++ [t]).map eT))), S) := rfl
            have e4 : L2.atI ((h ++ [t]).map eT) (-1) = some (eT t) := by
              rw [List.map_append]
              exact at_last _ _
            simp only [ap_tNotS, ap_tOf, ap_eCall, ap_aCons, ap_aNil, h5, h7, ap_eOp, ap_eNeg, ap_eC, bnd_ok, sp_oIx1, e4, List.length_cons, List.length_nil, Nat.zero_add, Nat.reduceAdd, if_true, ev_clash]
          rw [← eo, open_next gt] at el
          rw [ap_sAsgF, ← eo, el]
          simp only [noLst_T, if_true]
          rfl
      rw [wh_step et hb, h_loop hn k fuel (h ++ [t]) gt (by rw [List.length_append, List.length_singleton]; omega) (by omega)]
      conv => rhs; unfold complH
      rw [eo]
theorem l6 (hn : 3 ≤ n ∧ n ≤ 9) (g : Good n l) : s6_law (E n l (LT (openL n l)) (OW l) none none none none) S = some (.nx, E n l (LT []) (OW (complH n 21 l)) none none none none, S) := by
  have := h_loop (S := S) (l := l) hn 21 10000000000000000000000000000000000000000 l g (by omega) (by decide)
  exact this
theorem l7 (hn : 3 ≤ n ∧ n ≤ 9) (g : Good n l) (c4 : C) : s7_law (E n l c4 (OW (complH n 21 l)) none none none none) S = some (.nx, E n l c4 (OW (complH n 21 l)) (some (.u (.d (eP (complT n l))))) none none none, S) := by
  have hL : LIM = 1000000 := rfl
  have hlen := full_len hn.2 (complH_good 21 l g)
  have e1 := oSort_T (complH n 21 l) (by omega)
  have e2 : noLst (PyData.tuple ((complT n l).map eT)) = true := noLst_T _
  have h7 : eVar 7 (bor (E n l c4 (OW (complH n 21 l)) none none none none)) S = some (.ok (.d (.list ((complH n 21 l).map eT))), S) := rfl
  unfold s7_law
  rw [ap_sAsgB]
  simp only [ap_eBc, ap_aCons, ap_aNil, h7, bnd_ok, e1, sp_oTuple1]
  rw [if_pos (show noLstU (.d (.tuple ((sortT (complH n 21 l)).map eT))) = true from e2)]
  rfl
abbrev DU (n : Nat) (l : List T3) : C := some (.u (.d (eP (complT n l))))
theorem l8 (hn : 3 ≤ n ∧ n ≤ 9) (hs : standsB n l = true) (c4 c7 : C) : s8_law (E n l c4 c7 (DU n l) none none none) S = some (.nx, E n l c4 c7 (DU n l) none none none, S) := by
  have g := (stands_iff.mp hs).1
  have hs2 := complT_stands g
  have e1 := ask1 (S := S) hn hs
  have e2 : neP (eP (complT n l)) (eP (complT n l)) = some false := by rw [neP_P]; simp
  have e3 := ev_is_plan n hn (complT n l) (full_len hn.2 (stands_iff.mp hs2).1) S
  rw [hs2] at e3
  have e4 := ask0 (S := S) hn hs2
  rw [complT_end hn.2 g] at e4
  have e5 : neP (.list []) (.list []) = some false := rfl
  have e6 : isNotP (.bool true) (.bool true) = some false := rfl
  unfold s8_law
  rw [ap_sIf]
  simp [E, e1, e2, e3, e4, e5, e6]
theorem l9 (hn : 3 ≤ n ∧ n ≤ 9) (c4 c7 c8 : C) : s9_law (E n l c4 c7 c8 none none none) S = some (.nx, E n l c4 c7 c8 (some (.u (.d (.int (gN n : Nat))))) none none, S) := by
  have : n = 3 ∨ n = 4 ∨ n = 5 ∨ n = 6 ∨ n = 7 ∨ n = 8 ∨ n = 9 := by omega
  rcases this with rfl | rfl | rfl | rfl | rfl | rfl | rfl <;> kernel_rfl
abbrev GC (n : Nat) : C := some (.u (.d (.int (gN n : Nat))))
theorem l10 (hn : 3 ≤ n ∧ n ≤ 9) (hs : standsB n l = true) (c4 c7 : C) : s10_law (E n l c4 c7 (DU n l) (GC n) none none) S = some (.nx, E n l c4 c7 (DU n l) (GC n) none none, S) := by
  have g := (stands_iff.mp hs).1
  have e1 := ev_greatest n hn S
  have e2 := ev_same_number (gN n : Nat) (gN n : Nat) S
  rw [decide_eq_true rfl] at e2
  have h1 := good_max hn (stands_iff.mp (complT_stands g)).1
  have e3 : gtP (.int ((complT n l).length : Nat)) (.int (gN n : Nat)) = some false := by
    rw [gtP_int, decide_eq_false (by omega)]
  unfold s10_law
  rw [ap_sIf]
  simp [E, eP, e1, e2, e3]
theorem l11 (hn : 3 ≤ n ∧ n ≤ 9) (hs : standsB n l = true) (c4 c7 c8 c9 : C) : s11_law (E n l c4 c7 c8 c9 none none) S = some (.nx, E n l c4 c7 c8 c9 (OW l) (LT (openL n l)), S) := by
  have e1 := ask0 (S := S) hn hs
  have h2 : eVar 2 (E n l c4 c7 c8 c9 none none) S = some (.ok (.d (.int n)), S) := rfl
  have h3 : eVar 3 (E n l c4 c7 c8 c9 none none) S = some (.ok (.d (eP l)), S) := rfl
  have h4 : oList [.d (eP l)] = some (.d (.list (l.map eT))) := rfl
  unfold s11_law
  simp only [ap_sPar, ap_eBc, ap_aCons, ap_aNil, ap_eCall, ap_eC, h2, h3, bnd_ok, h4, List.length_cons, List.length_nil, Nat.zero_add, Nat.reduceAdd, if_true, e1, sp_oList1]
  rfl
def gBody (ns : List Int) : SemS := (sSeq (sApp 10 (eCall (m__law_pick ns) 3 (aCons (eVar 0) (aCons (eVar 1) (aCons (eVar 11) aNil)))))
  (sSeq (sSetC 11 m__law_ask 3 (aCons (eC (.int 0)) (aCons (eVar 2) (aCons (eBc oTuple (aCons (eBc oSort (aCons (eVar 10) aNil)) aNil)) aNil))))
  sNil))
theorem g_loop (ns : List Int) (h63 : ns.length ≤ 63) (hn : 3 ≤ n ∧ n ≤ 9) (c4 c7 c8 c9 : C) : ∀ (k fuel t : Nat) (h : List T3), Good n h → 20 < h.length + k → k < fuel → t + k < 100000 → ∃ h' t', Good n h' ∧ openL n h' = [] ∧ whGo (tOf (eOp (cD neP) (eVar 11) (eLst aNil))) (gBody ns) fuel (E n l c4 c7 c8 c9 (OW h) (LT (openL n h))) ⟨some t, []⟩ = some (.nx, E n l c4 c7 c8 c9 (OW h') (LT []), ⟨some t', []⟩)
  | 0, _, _, h, g, hk, _, _ => by
    have := full_len hn.2 g
    omega
  | k + 1, 0, _, _, _, _, hf, _ => absurd hf (by omega)
  | k + 1, fuel + 1, t, h, g, hk, hf, ht => by
    have hL : LIM = 1000000 := rfl
    have hlen := full_len hn.2 g
    have et := wh_test (i := 11) (δ := E n l c4 c7 c8 c9 (OW h) (LT (openL n h))) (S := ⟨some t, []⟩) eT (openL n h) rfl
    by_cases eo : openL n h = []
    · rw [eo] at et
      refine ⟨h, t, g, eo, ?_⟩
      rw [eo, wh_stop et]
    · rw [decide_eq_false eo] at et
      obtain ⟨x, hx, e⟩ := pick ns h63 t (by omega) ((openL n h).map eT) (by simpa using eo) []
      obtain ⟨y, hy, rfl⟩ := List.mem_map.mp hx
      have gt := open_good g hy
      obtain ⟨h', t', a1, a2, a3⟩ := g_loop ns h63 hn c4 c7 c8 c9 k fuel (t + 1) (h ++ [y]) gt (by rw [List.length_append, List.length_singleton]; omega) (by omega) (by omega)
      refine ⟨h', t', a1, a2, ?_⟩
      rw [wh_step et (δ2 := E n l c4 c7 c8 c9 (OW (h ++ [y])) (LT (openL n (h ++ [y])))) (S2 := ⟨some (t + 1), []⟩) ?_, a3]
      refine seq_to (δ1 := E n l c4 c7 c8 c9 (OW (h ++ [y])) (LT (openL n h))) (S1 := ⟨some (t + 1), []⟩) ?_ (seq_to (δ1 := E n l c4 c7 c8 c9 (OW (h ++ [y])) (LT (openL n (h ++ [y])))) (S1 := ⟨some (t + 1), []⟩) ?_ rfl)
      · have h7 : (E n l c4 c7 c8 c9 (OW h) (LT (openL n h)))[10]? = some (some (.own (h.map eT))) := rfl
        have ev : eCall (m__law_pick ns) 3 (aCons (eVar 0) (aCons (eVar 1) (aCons (eVar 11) aNil))) (E n l c4 c7 c8 c9 (OW h) (LT (openL n h))) ⟨some t, []⟩ = some (.ok (.d (eT y)), ⟨some (t + 1), []⟩) := by
          simp [E, e]
        rw [ap_sApp, h7]
        simp only [ev]
        rw [if_pos (by rw [List.length_map]; omega)]
        simp [E]
      · have e2 := oSort_T (h ++ [y]) (by rw [List.length_append, List.length_singleton]; omega)
        have e3 := ask0 (S := ⟨some (t + 1), []⟩) hn (stands_sort gt)
        rw [open_sort] at e3
        have e3 : m__law_ask [.d (.int 0), .d (.int n), .d (.tuple ((sortT (h ++ [y])).map eT))] ⟨some (t + 1), []⟩ = some (.ok (.d (.list ((openL n (h ++ [y])).map eT))), ⟨some (t + 1), []⟩) := e3
        have h10 : eVar 10 (bor (E n l c4 c7 c8 c9 (OW (h ++ [y])) (LT (openL n h)))) ⟨some (t + 1), []⟩ = some (.ok (.d (.list ((h ++ [y]).map eT))), ⟨some (t + 1), []⟩) := rfl
        have h2 : eVar 2 (bor (E n l c4 c7 c8 c9 (OW (h ++ [y])) (LT (openL n h)))) ⟨some (t + 1), []⟩ = some (.ok (.d (.int n)), ⟨some (t + 1), []⟩) := rfl
        have hc : ([.d (.int 0), .d (.int n), .d (.tuple ((sortT (h ++ [y])).map eT))] : List U).length = 3 ∧ ([.d (.int 0), .d (.int n), .d (.tuple ((sortT (h ++ [y])).map eT))] : List U).all noLstU = true := by
          refine ⟨rfl, ?_⟩
          have : noLstU (.d (.tuple ((sortT (h ++ [y])).map eT))) = true := noLst_T _
          simp only [List.all_cons, List.all_nil, this]
          rfl
        rw [ap_sSetC]
        simp only [ap_aCons, ap_aNil, ap_eC, ap_eBc, h2, h10, bnd_ok, e2, sp_oTuple1]
        rw [if_pos hc]
        simp only [e3]
        rfl
theorem l12 (ns : List Int) (h63 : ns.length ≤ 63) (hn : 3 ≤ n ∧ n ≤ 9) (g : Good n l) (c4 c7 c8 c9 : C) (t : Nat) (ht : t + 100 < 100000) : ∃ h' t', Good n h' ∧ openL n h' = [] ∧ s12_law ns (E n l c4 c7 c8 c9 (OW l) (LT (openL n l))) ⟨some t, []⟩ = some (.nx, E n l c4 c7 c8 c9 (OW h') (LT []), ⟨some t', []⟩) := by
  obtain ⟨h', t', a1, a2, a3⟩ := g_loop (l := l) ns h63 hn c4 c7 c8 c9 21 10000000000000000000000000000000000000000 t l g (by omega) (by decide) (by omega)
  exact ⟨h', t', a1, a2, a3⟩
theorem l13 (hn : 3 ≤ n ∧ n ≤ 9) {h : List T3} (g : Good n h) (ho : openL n h = []) (c4 c7 c8 c11 : C) : s13_law (E n l c4 c7 c8 (GC n) (OW h) c11) S = some (.nx, E n l c4 c7 c8 (GC n) (OW h) c11, S) := by
  have hL : LIM = 1000000 := rfl
  have hlen := full_len hn.2 g
  have e1 := oSort_T h (by omega)
  have h1 := good_max hn g
  have e3 : gtP (.int (h.length : Nat)) (.int (gN n : Nat)) = some false := by
    rw [gtP_int, decide_eq_false (by omega)]
  have e4 := ask1 (S := S) hn (stands_sort g)
  have e5 : complT n (sortT h) = sortT h := by
    unfold complT
    rw [complH_done (by rw [open_sort]; exact ho), sort_id (sortT_up (good_nodup g))]
  rw [e5] at e4
  have e4 : m__law_ask [.d (.int 1), .d (.int n), .d (.tuple ((sortT h).map eT))] S = some (.ok (.d (.tuple ((sortT h).map eT))), S) := e4
  have e6 : neP (.tuple ((sortT h).map eT)) (.tuple ((sortT h).map eT)) = some false := by
    have := neP_P (sortT h) (sortT h)
    simp at this
    exact this
  have h10 : eVar 10 (bor (E n l c4 c7 c8 (GC n) (OW h) c11)) S = some (.ok (.d (.list (h.map eT))), S) := rfl
  have h2 : eVar 2 (bor (E n l c4 c7 c8 (GC n) (OW h) c11)) S = some (.ok (.d (.int n)), S) := rfl
  have h9 : eVar 9 (bor (E n l c4 c7 c8 (GC n) (OW h) c11)) S = some (.ok (.d (.int (gN n : Nat))), S) := rfl
  unfold s13_law
  rw [ap_sIf]
  simp only [ap_tOrS, ap_tOf, ap_eOp, ap_eCall, ap_eBc, ap_aCons, ap_aNil, ap_eC, h2, h9, h10, bnd_ok, sp_oLen1, List.length_map, sp_cD, e3, Bool.false_eq_true, if_false, e1, sp_oTuple1, List.length_cons, List.length_nil, Nat.zero_add, Nat.reduceAdd, if_true, e4, e6]
  rfl
theorem l14 (hn : 3 ≤ n ∧ n ≤ 9) (c4 c7 c8 c9 c10 c11 : C) : s14_law (E n l c4 c7 c8 c9 c10 c11) S = some (.rt (.d (.bool true)), E n l c4 c7 c8 c9 c10 c11, S) := by
  have : n = 3 ∨ n = 4 ∨ n = 5 ∨ n = 6 ∨ n = 7 ∨ n = 8 ∨ n = 9 := by omega
  rcases this with rfl | rfl | rfl | rfl | rfl | rfl | rfl <;> kernel_rfl
theorem plain : ∀ ns : List Int, ns.length ≤ 63 → ∃ S', m_law ns [.sc] ⟨none, []⟩ = some (.ok (.d (.bool true)), S') := by
  intro ns h63
  obtain ⟨z, z0, z1, e⟩ := draw ns h63 0 (by decide) 7 (by decide) []
  obtain ⟨n, hn0⟩ : ∃ n : Nat, (3 : Int) + z = n := ⟨(3 + z).toNat, by omega⟩
  have hn : 3 ≤ n ∧ n ≤ 9 := by omega
  obtain ⟨l, t, hs, hlen, ht1, ht2, e2⟩ := ev_some_plan ns h63 n 8 1 hn (by decide) (by decide) []
  have g := (stands_iff.mp hs).1
  have hl : l.length ≤ 20 := by omega
  obtain ⟨h, t', gh, ho, e12⟩ := l12 (l := l) ns h63 hn g (LT []) (OW (complH n 21 l)) (DU n l) (GC n) t (by omega)
  refine ⟨⟨some t', []⟩, ?_⟩
  unfold m_law
  refine fn_rt (δ1 := E n l (LT []) (OW (complH n 21 l)) (DU n l) (GC n) (OW h) (LT [])) ?_
  refine seq_to (δ1 := [some (.u .sc), some (.u .tw), none, none, none, none, none, none, none, none, none, none, none]) (S1 := ⟨some 0, []⟩) rfl ?_
  refine seq_to (δ1 := [some (.u .sc), some (.u .tw), some (.u (.d (.int n))), none, none, none, none, none, none, none, none, none, none]) (S1 := ⟨some 1, []⟩) ?_ ?_
  · unfold s1_law
    simp [e, hn0]
  refine seq_to (δ1 := E n l none none none none none none) (S1 := ⟨some t, []⟩) ?_ ?_
  · have e2 : m__law_some_plan ns [.sc, .tw, .d (.int n), .d (.int 8)] ⟨some 1, []⟩ = some (.ok (.d (eP l)), ⟨some t, []⟩) := e2
    unfold s2_law
    simp [e2, E]
  exact seq_to (l3 hn g hl) (seq_to (l4 hn hs) (seq_to (l5 _) (seq_to (l6 hn g) (seq_to (l7 hn g _) (seq_to (l8 hn hs _ _) (seq_to (l9 hn _ _ _) (seq_to (l10 hn hs _ _) (seq_to (l11 hn hs _ _ _ _) (seq_to e12 (seq_to (l13 hn gh ho _ _ _ _) (seq_rt (l14 hn _ _ _ _ _ _))))))))))))
end K02
open PySem PySem.W PyProof.Rows DL
set_option maxHeartbeats 0 in
theorem PySem.Challenge.cw_threeplans_k02_whole_growing_holds : PySem.Challenge.rw_threeplans_k02_whole_growing.Holds := by
  w_on; o_law; k_head; (case hw => w_witness2)
  k_fill
  refine DL.law_end (k := 7) (x := "script") rfl rfl ⟨rfl, by decide, by decide⟩ (fun w h Y => PySem.W.kIn_of Y) ?F
  case F =>
    intro w mg fa h KX G hmg
    refine K02.law_mk K02.plain ?T KX G hmg
    refine' { b_ValueError := ?b_ValueError, b_all := ?b_all, b_bool := ?b_bool, b_int := ?b_int, b_isinstance := ?b_isinstance, b_len := ?b_len, b_list := ?b_list, b_min := ?b_min, b_range := ?b_range, b_set := ?b_set, b_sorted := ?b_sorted, b_tuple := ?b_tuple, b_zip := ?b_zip, x_InvalidFour := exIn (x := "InvalidFour") rfl ?xa_InvalidFour ?xq_InvalidFour ?xk_InvalidFour ?xs_InvalidFour ?xt_InvalidFour, x_InvalidNames := exIn (x := "InvalidNames") rfl ?xa_InvalidNames ?xq_InvalidNames ?xk_InvalidNames ?xs_InvalidNames ?xt_InvalidNames, x_InvalidPlan := exIn (x := "InvalidPlan") rfl ?xa_InvalidPlan ?xq_InvalidPlan ?xk_InvalidPlan ?xs_InvalidPlan ?xt_InvalidPlan, x_InvalidPlayer := exIn (x := "InvalidPlayer") rfl ?xa_InvalidPlayer ?xq_InvalidPlayer ?xk_InvalidPlayer ?xs_InvalidPlayer ?xt_InvalidPlayer, x_InvalidPlayers := exIn (x := "InvalidPlayers") rfl ?xa_InvalidPlayers ?xq_InvalidPlayers ?xk_InvalidPlayers ?xs_InvalidPlayers ?xt_InvalidPlayers, x_InvalidThree := exIn (x := "InvalidThree") rfl ?xa_InvalidThree ?xq_InvalidThree ?xk_InvalidThree ?xs_InvalidThree ?xt_InvalidThree, x_MetAlready := exIn (x := "MetAlready") rfl ?xa_MetAlready ?xq_MetAlready ?xk_MetAlready ?xs_MetAlready ?xt_MetAlready, x_NoDays := exIn (x := "NoDays") rfl ?xa_NoDays ?xq_NoDays ?xk_NoDays ?xs_NoDays ?xt_NoDays, x_NoPlan := exIn (x := "NoPlan") rfl ?xa_NoPlan ?xq_NoPlan ?xk_NoPlan ?xs_NoPlan ?xt_NoPlan, x_NothingToUndo := exIn (x := "NothingToUndo") rfl ?xa_NothingToUndo ?xq_NothingToUndo ?xk_NothingToUndo ?xs_NothingToUndo ?xt_NothingToUndo, x_ParseError := exIn (x := "ParseError") rfl ?xa_ParseError ?xq_ParseError ?xk_ParseError ?xs_ParseError ?xt_ParseError, xall := ?xall, plan := plIn ?pla ?plb, d_is_integer := defIn ?da_is_integer ?dl_is_integer ?dc_is_integer ?dk_is_integer, d_check_players := defIn ?da_check_players ?dl_check_players ?dc_check_players ?dk_check_players, d_fits := defIn ?da_fits ?dl_fits ?dc_fits ?dk_fits, d_pairs_of := defIn ?da_pairs_of ?dl_pairs_of ?dc_pairs_of ?dk_pairs_of, d_pairs_met := defIn ?da_pairs_met ?dl_pairs_met ?dc_pairs_met ?dk_pairs_met, d_stands := defIn ?da_stands ?dl_stands ?dc_stands ?dk_stands, d_is_plan := defIn ?da_is_plan ?dl_is_plan ?dc_is_plan ?dk_is_plan, d_check_plan := defIn ?da_check_plan ?dl_check_plan ?dc_check_plan ?dk_check_plan, d_all_pairs := defIn ?da_all_pairs ?dl_all_pairs ?dc_all_pairs ?dk_all_pairs, d_left_of := defIn ?da_left_of ?dl_left_of ?dc_left_of ?dk_left_of, d_open_list := defIn ?da_open_list ?dl_open_list ?dc_open_list ?dk_open_list, d_open_threes := defIn ?da_open_threes ?dl_open_threes ?dc_open_threes ?dk_open_threes, d_completion := defIn ?da_completion ?dl_completion ?dc_completion ?dk_completion, d_greatest := defIn ?da_greatest ?dl_greatest ?dc_greatest ?dk_greatest, d__law_cell_at := defIn ?da__law_cell_at ?dl__law_cell_at ?dc__law_cell_at ?dk__law_cell_at, d__law_mixed := defIn ?da__law_mixed ?dl__law_mixed ?dc__law_mixed ?dk__law_mixed, d__law_draw := defIn ?da__law_draw ?dl__law_draw ?dc__law_draw ?dk__law_draw, d__law_pick := defIn ?da__law_pick ?dl__law_pick ?dc__law_pick ?dk__law_pick, d__law_same_number := defIn ?da__law_same_number ?dl__law_same_number ?dc__law_same_number ?dk__law_same_number, d__law_every_three := defIn ?da__law_every_three ?dl__law_every_three ?dc__law_every_three ?dk__law_every_three, d__law_clash := defIn ?da__law_clash ?dl__law_clash ?dc__law_clash ?dk__law_clash, d__law_some_plan := defIn ?da__law_some_plan ?dl__law_some_plan ?dc__law_some_plan ?dk__law_some_plan, d__law_which := defIn ?da__law_which ?dl__law_which ?dc__law_which ?dk__law_which, d__law_ask := defIn ?da__law_ask ?dl__law_ask ?dc__law_ask ?dk__law_ask, d_law := defIn ?da_law ?dl_law ?dc_law ?dk_law }
    (case b_ValueError => k_is)
    (case b_all => k_is)
    (case b_bool => k_is)
    (case b_int => k_is)
    (case b_isinstance => k_is)
    (case b_len => k_is)
    (case b_list => k_is)
    (case b_min => k_is)
    (case b_range => k_is)
    (case b_set => k_is)
    (case b_sorted => k_is)
    (case b_tuple => k_is)
    (case b_zip => k_is)
    (case xa_InvalidFour => k_is); (case xq_InvalidFour => k_exc); (case xk_InvalidFour => k_is); (case xs_InvalidFour => k_is); (case xt_InvalidFour => k_is)
    (case xa_InvalidNames => k_is); (case xq_InvalidNames => k_exc); (case xk_InvalidNames => k_is); (case xs_InvalidNames => k_is); (case xt_InvalidNames => k_is)
    (case xa_InvalidPlan => k_is); (case xq_InvalidPlan => k_exc); (case xk_InvalidPlan => k_is); (case xs_InvalidPlan => k_is); (case xt_InvalidPlan => k_is)
    (case xa_InvalidPlayer => k_is); (case xq_InvalidPlayer => k_exc); (case xk_InvalidPlayer => k_is); (case xs_InvalidPlayer => k_is); (case xt_InvalidPlayer => k_is)
    (case xa_InvalidPlayers => k_is); (case xq_InvalidPlayers => k_exc); (case xk_InvalidPlayers => k_is); (case xs_InvalidPlayers => k_is); (case xt_InvalidPlayers => k_is)
    (case xa_InvalidThree => k_is); (case xq_InvalidThree => k_exc); (case xk_InvalidThree => k_is); (case xs_InvalidThree => k_is); (case xt_InvalidThree => k_is)
    (case xa_MetAlready => k_is); (case xq_MetAlready => k_exc); (case xk_MetAlready => k_is); (case xs_MetAlready => k_is); (case xt_MetAlready => k_is)
    (case xa_NoDays => k_is); (case xq_NoDays => k_exc); (case xk_NoDays => k_is); (case xs_NoDays => k_is); (case xt_NoDays => k_is)
    (case xa_NoPlan => k_is); (case xq_NoPlan => k_exc); (case xk_NoPlan => k_is); (case xs_NoPlan => k_is); (case xt_NoPlan => k_is)
    (case xa_NothingToUndo => k_is); (case xq_NothingToUndo => k_exc); (case xk_NothingToUndo => k_is); (case xs_NothingToUndo => k_is); (case xt_NothingToUndo => k_is)
    (case xa_ParseError => k_is); (case xq_ParseError => k_exc); (case xk_ParseError => k_is); (case xs_ParseError => k_is); (case xt_ParseError => k_is)
    (case xall => kernel_rfl)
    (case pla => k_is); (case plb => kernel_rfl)
    (case da_is_integer => k_is); (case dl_is_integer => k_is); (case dc_is_integer => k_is); (case dk_is_integer => k_is)
    (case da_check_players => k_is); (case dl_check_players => k_is); (case dc_check_players => k_is); (case dk_check_players => k_is)
    (case da_fits => k_is); (case dl_fits => k_is); (case dc_fits => k_is); (case dk_fits => k_is)
    (case da_pairs_of => k_is); (case dl_pairs_of => k_is); (case dc_pairs_of => k_is); (case dk_pairs_of => k_is)
    (case da_pairs_met => k_is); (case dl_pairs_met => k_is); (case dc_pairs_met => k_is); (case dk_pairs_met => k_is)
    (case da_stands => k_is); (case dl_stands => k_is); (case dc_stands => k_is); (case dk_stands => k_is)
    (case da_is_plan => k_is); (case dl_is_plan => k_is); (case dc_is_plan => k_is); (case dk_is_plan => k_is)
    (case da_check_plan => k_is); (case dl_check_plan => k_is); (case dc_check_plan => k_is); (case dk_check_plan => k_is)
    (case da_all_pairs => k_is); (case dl_all_pairs => k_is); (case dc_all_pairs => k_is); (case dk_all_pairs => k_is)
    (case da_left_of => k_is); (case dl_left_of => k_is); (case dc_left_of => k_is); (case dk_left_of => k_is)
    (case da_open_list => k_is); (case dl_open_list => k_is); (case dc_open_list => k_is); (case dk_open_list => k_is)
    (case da_open_threes => k_is); (case dl_open_threes => k_is); (case dc_open_threes => k_is); (case dk_open_threes => k_is)
    (case da_completion => k_is); (case dl_completion => k_is); (case dc_completion => k_is); (case dk_completion => k_is)
    (case da_greatest => k_is); (case dl_greatest => k_is); (case dc_greatest => k_is); (case dk_greatest => k_is)
    (case da__law_cell_at => k_is); (case dl__law_cell_at => k_is); (case dc__law_cell_at => k_is); (case dk__law_cell_at => k_is)
    (case da__law_mixed => k_is); (case dl__law_mixed => k_is); (case dc__law_mixed => k_is); (case dk__law_mixed => k_is)
    (case da__law_draw => k_is); (case dl__law_draw => k_is); (case dc__law_draw => k_is); (case dk__law_draw => k_is)
    (case da__law_pick => k_is); (case dl__law_pick => k_is); (case dc__law_pick => k_is); (case dk__law_pick => k_is)
    (case da__law_same_number => k_is); (case dl__law_same_number => k_is); (case dc__law_same_number => k_is); (case dk__law_same_number => k_is)
    (case da__law_every_three => k_is); (case dl__law_every_three => k_is); (case dc__law_every_three => k_is); (case dk__law_every_three => k_is)
    (case da__law_clash => k_is); (case dl__law_clash => k_is); (case dc__law_clash => k_is); (case dk__law_clash => k_is)
    (case da__law_some_plan => k_is); (case dl__law_some_plan => k_is); (case dc__law_some_plan => k_is); (case dk__law_some_plan => k_is)
    (case da__law_which => k_is); (case dl__law_which => k_is); (case dc__law_which => k_is); (case dk__law_which => k_is)
    (case da__law_ask => k_is); (case dl__law_ask => k_is); (case dc__law_ask => k_is); (case dk__law_ask => k_is)
    (case da_law => k_is); (case dl_law => k_is); (case dc_law => k_is); (case dk_law => k_is)
