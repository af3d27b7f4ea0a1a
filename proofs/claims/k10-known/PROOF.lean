import PyProof.Rows.All
import Wide.All
import OpenK.AllK
import Wide.FinOn
import HandS.ForMost
import HandS.ForExc
import HandS.TupAny
import HandS.TupMul
import HandS.Style
import HandS.TupLe
import KE.LtData
import KE.DataCmp
import KE.DataEq
import KE.SortData
import KE.DataIsa
import HandS.TupSets
import HandS.Zip
import HandS.Conv
import HandS.SetFor
import HandS.Remove
import KE.DataMinMax
import HandS.HotCalls
import HandS.ExcIs
import HandS.Deep
import KE.DataFind
import HandS.Dict
import HandS.More
import KE.GoesMore
import KE.GoesEnum
import PySem.Challenge.RW_threeplans_k10_whole_known_plans
set_option Elab.async false
set_option linter.all false
set_option maxRecDepth 100000
set_option maxHeartbeats 1000000
/-! The data layer, its ground: values without the heap, what a heap bears of them, what a run may change. -/
namespace DL
open PySem L2
/-- a value of the program: data, the script, the law's list of draws, an organizer by its number -/
inductive U where
  | d (x : PyData)
  | sc
  | tw
  | o (k : Nat)
  /-- an error of the class c, in hand -/
  | x (c : Nat)
  /-- a dict of ints that is not changed any more -/
  | m (kvs : List (Int × PyData))
structure Org where
  players : Int
  threes : List PyData
  kept : Int
structure Sto where
  tw : Option Nat
  os : List Org
inductive Cell where
  | u (x : U)
  | own (xs : List PyData)
  /-- a dict that the frame alone holds -/
  | dic (kvs : List (Int × PyData))
abbrev En := List (Option Cell)
/-- nothing (not told), or a value, or an error of the class c; the store behind it -/
abbrev Rs (α : Type) := Option (Except Nat α × Sto)
def bnd {α β : Type} (r : Rs α) (k : α → Sto → Rs β) : Rs β :=
  match r with
  | some (.ok a, S) => k a S
  | some (.error c, S) => some (.error c, S)
  | none => none
abbrev SemE := En → Sto → Rs U
abbrev SemT := En → Sto → Rs Bool
abbrev SemA := En → Sto → Rs (List U)
/-- what does not change through the law: the written part, the classes' places -/
structure Wd where
  K : PySem.W.Frag
  ca : Nat → Addr
  oc : Addr
  sa : Addr
  ns : List Int
  xa : Addr
  xc : Nat
/-- the lists that data may hold; the town's place; the organizers' places and those of their lists -/
structure Gh where
  F : Addr → Prop
  ta : Option Addr
  oa : List (Addr × Addr)
def Gh.M (G : Gh) (a : Addr) : Prop := G.ta = some a ∨ ∃ t ∈ G.oa, a = t.1 ∨ a = t.2
mutual
inductive Rp (F : Addr → Prop) (H : Hp) : V → PyData → Prop
  | non : Rp F H .non .none
  | bl (b : Bool) : Rp F H (.bl b) (.bool b)
  | int (i : Int) : Rp F H (.int i) (.int i)
  | str (x : Str) : Rp F H (.str x) (.str x)
  | lst {a : Addr} {xs : List V} {ds : List PyData} : F a → H a = some (.lst xs) → RpAll F H xs ds → Rp F H (.ref a) (.list ds)
  | tup {a : Addr} {xs : List V} {ds : List PyData} : H a = some (.tup xs) → RpAll F H xs ds → Rp F H (.ref a) (.tuple ds)
inductive RpAll (F : Addr → Prop) (H : Hp) : List V → List PyData → Prop
  | nil : RpAll F H [] []
  | cons {v : V} {vs : List V} {d : PyData} {ds : List PyData} : Rp F H v d → RpAll F H vs ds → RpAll F H (v :: vs) (d :: ds)
end
mutual
/-- no list lies within -/
def noLst : PyData → Bool
  | .list _ => false
  | .tuple xs => noLstAll xs
  | _ => true
def noLstAll : List PyData → Bool
  | [] => true
  | x :: xs => noLst x && noLstAll xs
end
section
variable {F F' : Addr → Prop} {H H' : Hp}
mutual
theorem Rp.move (hl : ∀ a xs, F a → H a = some (.lst xs) → F' a ∧ H' a = some (.lst xs)) (ht : ∀ a xs, H a = some (.tup xs) → H' a = some (.tup xs)) : ∀ (d : PyData) (v : V), Rp F H v d → Rp F' H' v d
  | .none, _, h => by cases h; exact .non
  | .bool _, _, h => by cases h; exact .bl _
  | .int _, _, h => by cases h; exact .int _
  | .str _, _, h => by cases h; exact .str _
  | .list ds, _, h => by
    cases h with
    | lst hf hr ha => exact .lst (hl _ _ hf hr).1 (hl _ _ hf hr).2 (RpAll.move hl ht ds _ ha)
  | .tuple ds, _, h => by
    cases h with
    | tup hr ha => exact .tup (ht _ _ hr) (RpAll.move hl ht ds _ ha)
  | .dict _, _, h => by cases h
theorem RpAll.move (hl : ∀ a xs, F a → H a = some (.lst xs) → F' a ∧ H' a = some (.lst xs)) (ht : ∀ a xs, H a = some (.tup xs) → H' a = some (.tup xs)) : ∀ (ds : List PyData) (vs : List V), RpAll F H vs ds → RpAll F' H' vs ds
  | [], _, h => by cases h; exact .nil
  | d :: ds, _, h => by
    cases h with
    | cons h1 h2 => exact .cons (Rp.move hl ht d _ h1) (RpAll.move hl ht ds _ h2)
end
mutual
theorem Rp.flat (ht : ∀ a xs, H a = some (.tup xs) → H' a = some (.tup xs)) : ∀ (d : PyData) (v : V), noLst d = true → Rp F H v d → Rp F' H' v d
  | .none, _, _, h => by cases h; exact .non
  | .bool _, _, _, h => by cases h; exact .bl _
  | .int _, _, _, h => by cases h; exact .int _
  | .str _, _, _, h => by cases h; exact .str _
  | .list ds, _, hn, h => by rw [noLst] at hn; cases hn
  | .tuple ds, _, hn, h => by
    rw [noLst] at hn
    cases h with
    | tup hr ha => exact .tup (ht _ _ hr) (RpAll.flat ht ds _ hn ha)
  | .dict _, _, _, h => by cases h
theorem RpAll.flat (ht : ∀ a xs, H a = some (.tup xs) → H' a = some (.tup xs)) : ∀ (ds : List PyData) (vs : List V), noLstAll ds = true → RpAll F H vs ds → RpAll F' H' vs ds
  | [], _, _, h => by cases h; exact .nil
  | d :: ds, _, hn, h => by
    rw [noLstAll, Bool.and_eq_true] at hn
    cases h with
    | cons h1 h2 => exact .cons (Rp.flat ht d _ hn.1 h1) (RpAll.flat ht ds _ hn.2 h2)
end
theorem RpAll.length : ∀ {vs : List V} {ds : List PyData}, RpAll F H vs ds → vs.length = ds.length
  | _, _, .nil => rfl
  | _, _, .cons _ t => by rw [List.length_cons, List.length_cons, RpAll.length t]
theorem RpAll.get : ∀ {vs : List V} {ds : List PyData} {i : Nat} {v : V}, RpAll F H vs ds → vs[i]? = some v → ∃ d, ds[i]? = some d ∧ Rp F H v d
  | _, _, _, _, .nil, e => by simp at e
  | _, _, 0, _, .cons h _, e => by
    simp at e
    subst e
    exact ⟨_, rfl, h⟩
  | _, _, i + 1, _, .cons _ t, e => by
    obtain ⟨d, e1, h⟩ := RpAll.get (i := i) t (by simpa using e)
    exact ⟨d, by simpa using e1, h⟩
theorem RpAll.getD : ∀ {vs : List V} {ds : List PyData} {i : Nat} {d : PyData}, RpAll F H vs ds → ds[i]? = some d → ∃ v, vs[i]? = some v ∧ Rp F H v d
  | _, _, _, _, .nil, e => by simp at e
  | _, _, 0, _, .cons h _, e => by
    simp at e
    subst e
    exact ⟨_, rfl, h⟩
  | _, _, i + 1, _, .cons _ t, e => by
    obtain ⟨d, e1, h⟩ := RpAll.getD (i := i) t (by simpa using e)
    exact ⟨d, by simpa using e1, h⟩
theorem RpAll.append : ∀ {vs ws : List V} {ds es : List PyData}, RpAll F H vs ds → RpAll F H ws es → RpAll F H (vs ++ ws) (ds ++ es)
  | _, _, _, _, .nil, h => h
  | _, _, _, _, .cons h t, h2 => .cons h (RpAll.append t h2)
theorem RpAll.take : ∀ {vs : List V} {ds : List PyData} (n : Nat), RpAll F H vs ds → RpAll F H (vs.take n) (ds.take n)
  | _, _, 0, _ => by simp; exact .nil
  | _, _, _ + 1, .nil => by simp; exact .nil
  | _, _, n + 1, .cons h t => .cons h (RpAll.take n t)
theorem RpAll.drop : ∀ {vs : List V} {ds : List PyData} (n : Nat), RpAll F H vs ds → RpAll F H (vs.drop n) (ds.drop n)
  | _, _, 0, h => h
  | _, _, _ + 1, .nil => by simp; exact .nil
  | _, _, n + 1, .cons _ t => RpAll.drop n t
mutual
theorem Rp.dp (K : PySem.W.Frag) : ∀ (d : PyData) (v : V), Rp F H v d → Dp K H v d
  | .none, _, h => by cases h; exact .non
  | .bool _, _, h => by cases h; exact .bl _
  | .int _, _, h => by cases h; exact .int _
  | .str _, _, h => by cases h; exact .str _
  | .list ds, _, h => by
    cases h with
    | lst hf hr ha => exact .lst (.inl (.inl hr)) (RpAll.dp K ds _ ha)
  | .tuple ds, _, h => by
    cases h with
    | tup hr ha => exact .tup (.inl (.inl hr)) (RpAll.dp K ds _ ha)
  | .dict _, _, h => by cases h
theorem RpAll.dp (K : PySem.W.Frag) : ∀ (ds : List PyData) (vs : List V), RpAll F H vs ds → DpAll K H vs ds
  | [], _, h => by cases h; exact .nil
  | d :: ds, _, h => by
    cases h with
    | cons h1 h2 => exact .cons (Rp.dp K d _ h1) (RpAll.dp K ds _ h2)
end
end
def fsOrg (n : Int) (l : Addr) (kept : Int) : List (Str × V) := putF "kept" (.int kept) (putF "threes" (.ref l) (putF "players" (.int n) []))
/-- a dict's values: ints and truths -/
def vOf : PyData → V
  | .int i => .int i
  | .bool b => .bl b
  | _ => .non
def encD (kvs : List (Int × PyData)) : List (Key × V) := kvs.map fun kv => (Sum.inl kv.1, vOf kv.2)
def RpU (wd : Wd) (G : Gh) (H : Hp) (v : V) : U → Prop
  | .d x => Rp G.F H v x
  | .sc => v = .ref wd.sa
  | .tw => ∃ a, G.ta = some a ∧ v = .ref a
  | .o k => ∃ t, G.oa[k]? = some t ∧ v = .ref t.1
  | .x c => v = .ref wd.xa ∧ wd.xc = c
  | .m kvs => ∃ a, v = .ref a ∧ G.F a ∧ H a = some (.dK (encD kvs))
/-- the heap bears the store -/
structure GOk (wd : Wd) (G : Gh) (H : Hp) (S : Sto) : Prop where
  fresh : ∀ p, H p = none → G.F p
  mF : ∀ a, G.M a → ¬ G.F a
  town : ∀ a, G.ta = some a → ∃ xs, H a = some (.lst xs) ∧ S.tw = some xs.length
  townN : S.tw = none → G.ta = none
  olen : G.oa.length = S.os.length
  org : ∀ (k : Nat) (t : Addr × Addr) (g : Org), G.oa[k]? = some t → S.os[k]? = some g → ∃ dx vs, H t.1 = some (.ins wd.oc dx (fsOrg g.players t.2 g.kept)) ∧ H t.2 = some (.lst vs) ∧ RpAll (fun _ => False) H vs g.threes
  nd1 : (G.oa.map (·.1)).Nodup
  nd2 : (G.oa.map (·.2)).Nodup
  ndt : ∀ a, G.ta = some a → ∀ t ∈ G.oa, t.2 ≠ a
  scr : (∃ o, H wd.sa = some (.frz o (.lst (wd.ns.map V.int)))) ∨ SqL wd.K (fun _ => none) wd.sa (wd.ns.map V.int)
theorem GOk.mut {wd : Wd} {G : Gh} {H : Hp} {S : Sto} (g : GOk wd G H S) {a : Addr} (h : G.M a) : (∃ xs, H a = some (.lst xs)) ∨ ∃ C dx fs, H a = some (.ins C dx fs) := by
  rcases h with h | ⟨t, ht, h⟩
  · obtain ⟨xs, e, _⟩ := g.town a h
    exact .inl ⟨xs, e⟩
  · obtain ⟨k, hk⟩ := List.mem_iff_getElem?.mp ht
    have hlt : k < S.os.length := by
      rw [← g.olen]
      exact (List.getElem?_eq_some_iff.mp hk).1
    obtain ⟨dx, vs, e1, e2, _⟩ := g.org k t _ hk (List.getElem?_eq_getElem hlt)
    rcases h with h | h
    · rw [h]; exact .inr ⟨_, _, _, e1⟩
    · rw [h]; exact .inl ⟨_, e2⟩
theorem GOk.tup {wd : Wd} {G : Gh} {H : Hp} {S : Sto} (g : GOk wd G H S) {a : Addr} {xs : List V} (h : H a = some (.tup xs)) : ¬ G.M a := fun m => by
  rcases g.mut m with ⟨ys, e⟩ | ⟨C, dx, fs, e⟩ <;> (rw [e] at h; cases h)
structure Grow (wd : Wd) (G : Gh) (H : Hp) (G' : Gh) (H' : Hp) (S' : Sto) : Prop where
  ok : GOk wd G' H' S'
  sub : ∀ a, G'.F a → G.F a
  keep : ∀ a o, H a = some o → G.F a → G'.F a
  same : ∀ a o, H a = some o → ¬ G.M a → H' a = some o
  mem : ∀ a, G'.M a → G.M a ∨ H a = none
  there : ∀ a o, H a = some o → ∃ o', H' a = some o'
  ta : ∀ a, G.ta = some a → G'.ta = some a
  oa : ∀ (k : Nat) (t : Addr × Addr), G.oa[k]? = some t → ∃ l, G'.oa[k]? = some (t.1, l)
section
variable {wd : Wd} {G G1 G2 G' : Gh} {H H1 H2 H' : Hp} {S S1 S2 S' : Sto}
theorem Grow.refl (g : GOk wd G H S) : Grow wd G H G H S :=
  ⟨g, fun _ h => h, fun _ _ _ h => h, fun _ _ h _ => h, fun _ h => .inl h, fun _ o h => ⟨o, h⟩, fun _ h => h, fun _ t h => ⟨t.2, h⟩⟩
theorem Grow.none_of (g : Grow wd G H G' H' S') {a : Addr} (h : H' a = none) : H a = none := by
  cases e : H a with
  | none => rfl
  | some o =>
    obtain ⟨o', e'⟩ := g.there a o e
    rw [h] at e'; cases e'
theorem Grow.trans (a : Grow wd G H G1 H1 S1) (b : Grow wd G1 H1 G2 H2 S2) : Grow wd G H G2 H2 S2 where
  ok := b.ok
  sub := fun x h => a.sub x (b.sub x h)
  keep := fun x o h f => by
    obtain ⟨o', e⟩ := a.there x o h
    exact b.keep x o' e (a.keep x o h f)
  same := fun x o h m => b.same x o (a.same x o h m) fun m1 => by
    rcases a.mem x m1 with z | z
    · exact m z
    · rw [h] at z; cases z
  mem := fun x m => by
    rcases b.mem x m with z | z
    · exact a.mem x z
    · exact .inr (a.none_of z)
  there := fun x o h => by
    obtain ⟨o', e⟩ := a.there x o h
    exact b.there x o' e
  ta := fun x h => b.ta x (a.ta x h)
  oa := fun k t h => by
    obtain ⟨l, e⟩ := a.oa k t h
    exact b.oa k (t.1, l) e
theorem Grow.lst (gr : Grow wd G H G' H' S') (g : GOk wd G H S) {a : Addr} {xs : List V} (f : G.F a) (h : H a = some (.lst xs)) : G'.F a ∧ H' a = some (.lst xs) :=
  ⟨gr.keep a _ h f, gr.same a _ h fun m => g.mF a m f⟩
theorem Grow.tup (gr : Grow wd G H G' H' S') (g : GOk wd G H S) {a : Addr} {xs : List V} (h : H a = some (.tup xs)) : H' a = some (.tup xs) := gr.same a _ h (g.tup h)
theorem Grow.rp (gr : Grow wd G H G' H' S') (g : GOk wd G H S) {v : V} {d : PyData} (h : Rp G.F H v d) : Rp G'.F H' v d := Rp.move (fun _ _ f r => gr.lst g f r) (fun _ _ r => gr.tup g r) d v h
theorem Grow.rpAll (gr : Grow wd G H G' H' S') (g : GOk wd G H S) {vs : List V} {ds : List PyData} (h : RpAll G.F H vs ds) : RpAll G'.F H' vs ds := RpAll.move (fun _ _ f r => gr.lst g f r) (fun _ _ r => gr.tup g r) ds vs h
theorem Grow.rpU (gr : Grow wd G H G' H' S') (g : GOk wd G H S) {v : V} {u : U} (h : RpU wd G H v u) : RpU wd G' H' v u := by
  cases u with
  | d x => exact gr.rp g h
  | sc => exact h
  | tw =>
    obtain ⟨a, e, rfl⟩ := h
    exact ⟨a, gr.ta a e, rfl⟩
  | o k =>
    obtain ⟨t, e, rfl⟩ := h
    obtain ⟨l, e'⟩ := gr.oa k t e
    exact ⟨_, e', rfl⟩
  | x c => exact h
  | m kvs =>
    obtain ⟨a, rfl, f, e⟩ := h
    exact ⟨a, rfl, gr.keep a _ e f, gr.same a _ e (fun m => g.mF a m f)⟩
/-- a new object -/
theorem Grow.new (g : GOk wd G H S) {p : Addr} {o : HO} (hp : H p = none) : Grow wd G H G (upd H p o) S := by
  have ne : ∀ a u, H a = some u → upd H p o a = some u := fun a u e => by rw [upd_ne (ne_of_none e hp)]; exact e
  refine ⟨⟨fun q hq => ?_, g.mF, fun a ha => ?_, g.townN, g.olen, fun k t og hk hs => ?_, g.nd1, g.nd2, g.ndt, ?_⟩, fun _ h => h, fun _ _ _ h => h, fun a u e _ => ne a u e, fun _ h => .inl h, fun a u e => ⟨u, ne a u e⟩, fun _ h => h, fun _ t h => ⟨t.2, h⟩⟩
  · refine g.fresh q ?_
    cases e : H q with
    | none => rfl
    | some u => rw [ne q u e] at hq; cases hq
  · obtain ⟨xs, e, l⟩ := g.town a ha
    exact ⟨xs, ne _ _ e, l⟩
  · obtain ⟨dx, vs, e1, e2, r⟩ := g.org k t og hk hs
    exact ⟨dx, vs, ne _ _ e1, ne _ _ e2, RpAll.move (fun a xs f r => f.elim) (fun a xs r => ne _ _ r) _ _ r⟩
  · rcases g.scr with ⟨ob, h⟩ | h
    · exact .inl ⟨ob, ne _ _ h⟩
    · exact .inr h
/-- a list that is nobody's but the frame's is changed -/
theorem GOk.updL {vs vs' : List V} {a : Addr} (g : GOk wd G H S) (h : H a = some (.lst vs)) (nm : ¬ G.M a) : GOk wd G (L2.upd H a (.lst vs')) S := by
  have ne : ∀ b o, H b = some o → b ≠ a → L2.upd H a (.lst vs') b = some o := fun b o e n => by rw [upd_ne n]; exact e
  have nM : ∀ b, G.M b → b ≠ a := fun b m z => nm (z ▸ m)
  have nT : ∀ b xs, H b = some (.tup xs) → L2.upd H a (.lst vs') b = some (.tup xs) := fun b xs e => ne b _ e (fun z => by rw [z, h] at e; cases e)
  refine ⟨fun p hp => g.fresh p ?_, g.mF, fun b hb => ?_, g.townN, g.olen, fun k t og h1 h2 => ?_, g.nd1, g.nd2, g.ndt, ?_⟩
  · by_cases z : p = a
    · rw [z, upd_same] at hp; cases hp
    · rw [upd_ne z] at hp; exact hp
  · obtain ⟨xs, e, l⟩ := g.town b hb
    exact ⟨xs, ne b _ e (nM b (.inl hb)), l⟩
  · obtain ⟨dx, ws, e1, e2, r⟩ := g.org k t og h1 h2
    have mt := List.mem_of_getElem? h1
    exact ⟨dx, ws, ne _ _ e1 (nM _ (.inr ⟨t, mt, .inl rfl⟩)), ne _ _ e2 (nM _ (.inr ⟨t, mt, .inr rfl⟩)), RpAll.move (fun _ _ f _ => f.elim) (fun b xs r => nT b xs r) _ _ r⟩
  · rcases g.scr with ⟨ob, e⟩ | e
    · exact .inl ⟨ob, ne _ _ e (fun z => by rw [z, h] at e; cases e)⟩
    · exact .inr e
/-- a dict that is nobody's but the frame's is changed -/
theorem GOk.updD {vs vs' : List (Key × V)} {a : Addr} (g : GOk wd G H S) (h : H a = some (.dK vs)) (nm : ¬ G.M a) : GOk wd G (L2.upd H a (.dK vs')) S := by
  have ne : ∀ b o, H b = some o → b ≠ a → L2.upd H a (.dK vs') b = some o := fun b o e n => by rw [upd_ne n]; exact e
  have nM : ∀ b, G.M b → b ≠ a := fun b m z => nm (z ▸ m)
  have nT : ∀ b xs, H b = some (.tup xs) → L2.upd H a (.dK vs') b = some (.tup xs) := fun b xs e => ne b _ e (fun z => by rw [z, h] at e; cases e)
  refine ⟨fun p hp => g.fresh p ?_, g.mF, fun b hb => ?_, g.townN, g.olen, fun k t og h1 h2 => ?_, g.nd1, g.nd2, g.ndt, ?_⟩
  · by_cases z : p = a
    · rw [z, upd_same] at hp; cases hp
    · rw [upd_ne z] at hp; exact hp
  · obtain ⟨xs, e, l⟩ := g.town b hb
    exact ⟨xs, ne b _ e (nM b (.inl hb)), l⟩
  · obtain ⟨dx, ws, e1, e2, r⟩ := g.org k t og h1 h2
    have mt := List.mem_of_getElem? h1
    exact ⟨dx, ws, ne _ _ e1 (nM _ (.inr ⟨t, mt, .inl rfl⟩)), ne _ _ e2 (nM _ (.inr ⟨t, mt, .inr rfl⟩)), RpAll.move (fun _ _ f _ => f.elim) (fun b xs r => nT b xs r) _ _ r⟩
  · rcases g.scr with ⟨ob, e⟩ | e
    · exact .inl ⟨ob, ne _ _ e (fun z => by rw [z, h] at e; cases e)⟩
    · exact .inr e
/-- another set of lists that data may hold -/
theorem GOk.withF (g : GOk wd G H S) (F : Addr → Prop) (fr : ∀ p, H p = none → F p) (mF : ∀ a, G.M a → ¬ F a) : GOk wd { G with F := F } H S := ⟨fr, mF, g.town, g.townN, g.olen, g.org, g.nd1, g.nd2, g.ndt, g.scr⟩
end
/-- the cells hold -/
structure St0 (wd : Wd) (G : Gh) (σ : L2.St) (H : Hp) (δ : En) (S : Sto) : Prop where
  ok : GOk wd G H S
  at_ : ∀ (i : Nat) (x : U), δ[i]? = some (some (.u x)) → ∃ v, σ[i]? = some (some v) ∧ RpU wd G H v x
  len : δ.length ≤ σ.length
theorem St0.grow {wd : Wd} {G G' : Gh} {σ : L2.St} {H H' : Hp} {δ : En} {S S' : Sto} (s : St0 wd G σ H δ S) (gr : Grow wd G H G' H' S') : St0 wd G' σ H' δ S' :=
  ⟨gr.ok, fun i x e => by
    obtain ⟨v, e1, r⟩ := s.at_ i x e
    exact ⟨v, e1, gr.rpU s.ok r⟩, s.len⟩
/-! ### readings that keep to a semantic function -/
section
variable (wd : Wd) (W : WX)
def RdE (t : TE) (f : SemE) : Prop := ∀ (G : Gh) (σ : L2.St) (H : Hp) (δ : En) (S : Sto) (r : Except Nat U) (S' : Sto) (Q : VK), St0 wd G σ H δ S → f δ S = some (r, S') →
  (∀ u, r = .ok u → ∀ v G' H', Grow wd G H G' H' S' → RpU wd G' H' v u → Q v H') → (∀ c, r = .error c → ∀ G' H', Grow wd G H G' H' S' → W (.ref (wd.ca c)) none σ H') → t σ H Q
def RdT (t : TT) (f : SemT) : Prop := ∀ (G : Gh) (σ : L2.St) (H : Hp) (δ : En) (S : Sto) (r : Except Nat Bool) (S' : Sto) (Q : Bool → Hp → Prop), St0 wd G σ H δ S → f δ S = some (r, S') →
  (∀ b, r = .ok b → ∀ G' H', Grow wd G H G' H' S' → Q b H') → (∀ c, r = .error c → ∀ G' H', Grow wd G H G' H' S' → W (.ref (wd.ca c)) none σ H') → t σ H Q
def RpUs (G : Gh) (H : Hp) : List V → List U → Prop := Paired fun v u => RpU wd G H v u
def RdA (t : TA) (f : SemA) : Prop := ∀ (G : Gh) (σ : L2.St) (H : Hp) (δ : En) (S : Sto) (r : Except Nat (List U)) (S' : Sto) (Q : List V → Hp → Prop), St0 wd G σ H δ S → f δ S = some (r, S') →
  (∀ us, r = .ok us → ∀ vs G' H', Grow wd G H G' H' S' → RpUs wd G' H' vs us → Q vs H') → (∀ c, r = .error c → ∀ G' H', Grow wd G H G' H' S' → W (.ref (wd.ca c)) none σ H') → t σ H Q
/-- .. the value a new list -/
def RdF (t : TE) (f : SemE) : Prop := ∀ (G : Gh) (σ : L2.St) (H : Hp) (δ : En) (S : Sto) (r : Except Nat U) (S' : Sto) (Q : VK), St0 wd G σ H δ S → f δ S = some (r, S') →
  (∀ ds, r = .ok (.d (.list ds)) → ∀ p vs G' H', H p = none → G'.F p → Grow wd G H G' H' S' → H' p = some (.lst vs) → RpAll (fun a => G'.F a ∧ a ≠ p) H' vs ds → Q (.ref p) H') →
  (∀ c, r = .error c → ∀ G' H', Grow wd G H G' H' S' → W (.ref (wd.ca c)) none σ H') → t σ H Q
end
end DL
set_option maxHeartbeats 1000000
/-! The data layer: expressions. -/
namespace DL
open PySem L2
/-- what stands fixed through the law -/
structure Gb where
  wd : Wd
  P : Program
  w : World
  mg : Str → Option Value
  base : Heap
/-- a family of contexts with one wish -/
structure Fm (g : Gb) (W : WX) (k : Nat) {ι : Type} (Xf : ι → Cx) : Prop where
  prog : ∀ i, (Xf i).prog = g.P
  w : ∀ i, (Xf i).w = g.w
  K : ∀ i, (Xf i).K = g.wd.K
  mg : ∀ i, (Xf i).mg = g.mg
  base : ∀ i, (Xf i).base = g.base
  calm : ∀ i, (Xf i).calm = true
  room : ∀ i, Room k (Xf i).A
  takes : ∀ i, Takes (Xf i) W
  nd : ∀ i, (Xf i).N.Nodup
  pown : ∀ i, PassesOwn (model (Xf i).prog (Xf i).w) (Xf i).A (Xf i).env (Xf i).xe
section
variable (g : Gb) (W : WX) {ι : Type} (Xf : ι → Cx)
def SE (e : Expr) (f : SemE) : Prop := ∃ t, (∀ i, PE (Xf i) e t) ∧ RdE g.wd W t f
def SF (e : Expr) (f : SemE) : Prop := ∃ t, (∀ i, PE (Xf i) e t) ∧ RdF g.wd W t f
def ST (e : Expr) (f : SemT) : Prop := ∃ t, (∀ i, PT (Xf i) e t) ∧ RdT g.wd W t f
def SW (e : Expr) (f : SemT) : Prop := ∃ t, (∀ i, PW (Xf i) e t) ∧ RdT g.wd W t f
def SA (es : List Expr) (f : SemA) : Prop := ∃ t, (∀ i, PA (Xf i) es t) ∧ RdA g.wd W t f
end
section
variable {g : Gb} {W : WX} {ι : Type} {Xf : ι → Cx} {k : Nat}
theorem rdE_of_F {wd : Wd} {t : TE} {f : SemE} (h : RdF wd W t f) : RdE wd W t f := fun G σ H δ S r S' Q s0 e q1 q2 =>
  h G σ H δ S r S' Q s0 e (fun ds er p vs G' H' hp fp gr hl ra => q1 _ er (.ref p) G' H' gr (Rp.lst fp hl (RpAll.move (fun _ _ f r => ⟨f.1, r⟩) (fun _ _ r => r) _ _ ra))) q2
theorem SF.se {e : Expr} {f : SemE} (h : SF g W Xf e f) : SE g W Xf e f := by
  obtain ⟨t, h1, h2⟩ := h
  exact ⟨t, h1, rdE_of_F h2⟩
theorem SW.st {e : Expr} {f : SemT} (h : SW g W Xf e f) : ST g W Xf e f := by
  obtain ⟨t, h1, h2⟩ := h
  exact ⟨t, fun i => (h1 i).pt, h2⟩
theorem bnd_some {α β : Type} {r : Rs α} {f : α → Sto → Rs β} {z : Except Nat β} {S' : Sto} (h : bnd r f = some (z, S')) :
    (∃ a S1, r = some (.ok a, S1) ∧ f a S1 = some (z, S')) ∨ ∃ c, r = some (.error c, S') ∧ z = .error c := by
  cases r with
  | none => cases h
  | some p =>
    obtain ⟨x, S1⟩ := p
    cases x with
    | ok a => exact .inl ⟨a, S1, rfl, h⟩
    | error c =>
      cases h
      exact .inr ⟨c, rfl, rfl⟩
/-! ### names, constants -/
def eVar (i : Nat) : SemE := fun δ S => match δ[i]? with
  | some (some (.u x)) => some (.ok x, S)
  | _ => none
theorem se_var (i : Nat) {x : Str} {pos : Pos} (hN : ∀ j, (Xf j).N[i]? = some x := by intro _; rfl)
    (hv : ∀ j, Vis (Xf j).env.scope x := by first | exact fun _ => Or.inl rfl | exact fun _ => Or.inr (Or.inl rfl) | exact fun _ => Or.inr (Or.inr rfl)) (hd : (x == ("__debug__" : Str)) = false := by decide)
    (hcd : (x == ("__classdict__" : Str)) = false := by decide) : SE g W Xf (.Name x pos) (eVar i) := by
  refine ⟨_, fun j => pe_var (hN j) (hv j) hd hcd, fun G σ H δ S r S' Q s0 e q1 q2 => ?_⟩
  unfold eVar at e
  split at e
  · rename_i x hx
    cases e
    obtain ⟨v, hv, rv⟩ := s0.at_ i x hx
    exact ⟨v, hv, q1 x rfl v G H (Grow.refl s0.ok) rv⟩
  · cases e
def eC (x : PyData) : SemE := fun _ S => some (.ok (.d x), S)
theorem rdE_c {wd : Wd} {v : V} {x : PyData} (h : ∀ F H, Rp F H v x) : RdE wd W (tC v) (eC x) := fun G σ H δ S r S' Q s0 e q1 q2 => by
  unfold eC at e
  cases e
  exact q1 _ rfl v G H (Grow.refl s0.ok) (h _ _)
theorem se_int {i j pos} : SE g W Xf (.Constant (.int i) j pos) (eC (.int i)) := ⟨_, fun _ => pe_int, rdE_c fun _ _ => .int i⟩
theorem se_bl {b j pos} : SE g W Xf (.Constant (.bool b) j pos) (eC (.bool b)) := ⟨_, fun _ => pe_bl, rdE_c fun _ _ => .bl b⟩
theorem se_non {j pos} : SE g W Xf (.Constant .none j pos) (eC .none) := ⟨_, fun _ => pe_non, rdE_c fun _ _ => .non⟩
/-! ### argument lists, displays -/
def aNil : SemA := fun _ S => some (.ok [], S)
def aCons (f : SemE) (r : SemA) : SemA := fun δ S => bnd (f δ S) fun x S => bnd (r δ S) fun xs S => some (.ok (x :: xs), S)
theorem sa_nil : SA g W Xf [] aNil := ⟨_, fun _ => pa_nil, fun G σ H δ S r S' Q s0 e q1 q2 => by
  unfold aNil at e
  cases e
  exact q1 _ rfl [] G H (Grow.refl s0.ok) .nil⟩
theorem sa_cons {e : Expr} {es : List Expr} {f : SemE} {r : SemA} (h1 : SE g W Xf e f) (h2 : SA g W Xf es r) (hs : ∀ i, starEach (e :: es) (Xf i).env = (false, eval e (Xf i).env) :: starEach es (Xf i).env := by intro _; rfl) :
    SA g W Xf (e :: es) (aCons f r) := by
  obtain ⟨t, p1, q1⟩ := h1
  obtain ⟨u, p2, q2⟩ := h2
  refine ⟨tCons t u, fun i => pa_cons (p1 i) (p2 i) (hs i), fun G σ H δ S z S' Q s0 e k1 k2 => ?_⟩
  rcases bnd_some e with ⟨a, S1, ea, e2⟩ | ⟨c, ec, ez⟩
  · refine q1 G σ H δ S _ S1 _ s0 ea (fun x ex v G1 H1 gr1 rv => ?_) (fun c ec => nomatch ec)
    cases ex
    have s1 := s0.grow gr1
    rcases bnd_some e2 with ⟨as, S2, eas, e3⟩ | ⟨c, ec, ez⟩
    · cases e3
      refine q2 G1 σ H1 δ S1 _ _ _ s1 eas (fun xs exs vs G2 H2 gr2 rvs => ?_) (fun c ec => nomatch ec)
      cases exs
      exact k1 _ rfl (v :: vs) G2 H2 (gr1.trans gr2) (.cons (gr2.rpU s1.ok rv) rvs)
    · subst ez
      refine q2 G1 σ H1 δ S1 _ _ _ s1 ec (fun xs exs => nomatch exs) (fun c' ec' G2 H2 gr2 => ?_)
      cases ec'
      exact k2 c rfl G2 H2 (gr1.trans gr2)
  · subst ez
    refine q1 G σ H δ S _ S' _ s0 ec (fun xs exs => nomatch exs) (fun c' ec' G2 H2 gr2 => ?_)
    cases ec'
    exact k2 c rfl G2 H2 gr2
def allD : List U → Option (List PyData)
  | [] => some []
  | .d x :: r => match allD r with
    | some xs => some (x :: xs)
    | none => none
  | _ :: _ => none
theorem allD_rp {wd : Wd} {G : Gh} {H : Hp} : ∀ {vs : List V} {us : List U} {ds : List PyData}, RpUs wd G H vs us → allD us = some ds → RpAll G.F H vs ds
  | _, _, _, .nil, e => by
    cases e
    exact .nil
  | _, u :: us, ds, .cons h t, e => by
    cases u with
    | d x =>
      unfold allD at e
      split at e
      · rename_i xs hx
        cases e
        exact .cons h (allD_rp t hx)
      · cases e
    | sc => cases e
    | tw => cases e
    | o k => cases e
    | x c => cases e
    | m kvs => cases e
def eTup (a : SemA) : SemE := fun δ S => bnd (a δ S) fun us S => match allD us with
  | some ds => if ds.length ≤ 1000 then some (.ok (.d (.tuple ds)), S) else none
  | none => none
def eLst (a : SemA) : SemE := fun δ S => bnd (a δ S) fun us S => match allD us with
  | some ds => if ds.length ≤ 1000 then some (.ok (.d (.list ds)), S) else none
  | none => none
theorem sz1000 {n : Nat} (h : n ≤ 1000) : n ≤ sizeLine := Nat.le_trans h (by decide)
theorem se_tup {es : List Expr} {f : SemA} {x1 pos} (h : SA g W Xf es f) : SE g W Xf (.Tuple es x1 pos) (eTup f) := by
  obtain ⟨t, p1, q1⟩ := h
  refine ⟨tTup t, fun i => pe_tup (p1 i), fun G σ H δ S z S' Q s0 e k1 k2 => ?_⟩
  rcases bnd_some e with ⟨us, S1, ea, e2⟩ | ⟨c, ec, ez⟩
  · split at e2
    · rename_i ds hds
      split at e2
      · rename_i hl
        cases e2
        refine q1 G σ H δ S _ _ _ s0 ea (fun x ex vs G1 H1 gr1 rv => ?_) (fun c ec => nomatch ec)
        cases ex
        have ra := allD_rp rv hds
        refine ⟨sz1000 (by rw [ra.length]; exact hl), fun p hp => ?_⟩
        have gr2 := Grow.new (o := .tup vs) gr1.ok hp
        exact k1 _ rfl (.ref p) G1 _ (gr1.trans gr2) (.tup upd_same (gr2.rpAll gr1.ok ra))
      · cases e2
    · cases e2
  · subst ez
    refine q1 G σ H δ S _ S' _ s0 ec (fun xs exs => nomatch exs) (fun c' ec' G2 H2 gr2 => ?_)
    cases ec'
    exact k2 c rfl G2 H2 gr2
/-- a new list laid -/
theorem new_lst {wd : Wd} {G : Gh} {H : Hp} {S : Sto} {vs : List V} {ds : List PyData} {p : Addr} (ok : GOk wd G H S) (hp : H p = none) (ra : RpAll G.F H vs ds) : RpAll (fun a => G.F a ∧ a ≠ p) (upd H p (.lst vs)) vs ds :=
  RpAll.move (fun a xs f r => ⟨⟨f, ne_of_none r hp⟩, by rw [upd_ne (ne_of_none r hp)]; exact r⟩) (fun a xs r => by rw [upd_ne (ne_of_none r hp)]; exact r) _ _ ra
theorem sf_lst {es : List Expr} {f : SemA} {pos} (h : SA g W Xf es f) : SF g W Xf (.List es pos) (eLst f) := by
  obtain ⟨t, p1, q1⟩ := h
  refine ⟨tLst t, fun i => pe_lst (p1 i), fun G σ H δ S z S' Q s0 e k1 k2 => ?_⟩
  rcases bnd_some e with ⟨us, S1, ea, e2⟩ | ⟨c, ec, ez⟩
  · split at e2
    · rename_i ds hds
      split at e2
      · rename_i hl
        cases e2
        refine q1 G σ H δ S _ _ _ s0 ea (fun x ex vs G1 H1 gr1 rv => ?_) (fun c ec => nomatch ec)
        cases ex
        have ra := allD_rp rv hds
        refine ⟨sz1000 (by rw [ra.length]; exact hl), fun p hp => ?_⟩
        have gr2 := Grow.new (o := .lst vs) gr1.ok hp
        exact k1 ds rfl p vs G1 _ (gr1.none_of hp) (gr1.ok.fresh p hp) (gr1.trans gr2) upd_same (new_lst gr1.ok hp ra)
      · cases e2
    · cases e2
  · subst ez
    refine q1 G σ H δ S _ S' _ s0 ec (fun xs exs => nomatch exs) (fun c' ec' G2 H2 gr2 => ?_)
    cases ec'
    exact k2 c rfl G2 H2 gr2
/-! ### operators -/
def RdO (wd : Wd) (r : R2) (op : U → U → Option U) : Prop := ∀ (G : Gh) (H : Hp) (S : Sto) (x y : V) (u w z : U) (Q : VK), GOk wd G H S → RpU wd G H x u → RpU wd G H y w → op u w = some z →
  (∀ v G' H', Grow wd G H G' H' S → RpU wd G' H' v z → Q v H') → r x y H Q
def eOp (op : U → U → Option U) (f h : SemE) : SemE := fun δ S => bnd (f δ S) fun x S => bnd (h δ S) fun y S => match op x y with
  | some z => some (.ok z, S)
  | none => none
theorem rd_op {wd : Wd} {r : R2} {op : U → U → Option U} {ta tb : TE} {f h : SemE} (ho : RdO wd r op) (ha : RdE wd W ta f) (hb : RdE wd W tb h) : RdE wd W (tOp r ta tb) (eOp op f h) := fun G σ H δ S z S' Q s0 e k1 k2 => by
  rcases bnd_some e with ⟨a, S1, ea, e2⟩ | ⟨c, ec, ez⟩
  · refine ha G σ H δ S _ S1 _ s0 ea (fun x ex v G1 H1 gr1 rv => ?_) (fun c ec => nomatch ec)
    cases ex
    have s1 := s0.grow gr1
    rcases bnd_some e2 with ⟨b, S2, eb, e3⟩ | ⟨c, ec, ez⟩
    · refine hb G1 σ H1 δ S1 _ S2 _ s1 eb (fun y ey w G2 H2 gr2 rw' => ?_) (fun c ec => nomatch ec)
      cases ey
      split at e3
      · rename_i zz hz
        cases e3
        refine ho G2 H2 _ v w a b zz Q gr2.ok (gr2.rpU s1.ok rv) rw' hz fun v' G3 H3 gr3 r3 => ?_
        exact k1 _ rfl v' G3 H3 ((gr1.trans gr2).trans gr3) r3
      · cases e3
    · subst ez
      refine hb G1 σ H1 δ S1 _ _ _ s1 ec (fun xs exs => nomatch exs) (fun c' ec' G2 H2 gr2 => ?_)
      cases ec'
      exact k2 c rfl G2 H2 (gr1.trans gr2)
  · subst ez
    refine ha G σ H δ S _ S' _ s0 ec (fun xs exs => nomatch exs) (fun c' ec' G2 H2 gr2 => ?_)
    cases ec'
    exact k2 c rfl G2 H2 gr2
/-- an operator's rule, in every context of the family, and what it computes -/
def OpOk (g : Gb) {ι : Type} (Xf : ι → Cx) (f : Value → Value → Sem Value) (op : U → U → Option U) : Prop := ∃ r, (∀ i, OpR (Xf i) f r) ∧ RdO g.wd r op
theorem se_bin {a b : Expr} {op : Operator} {o : U → U → Option U} {f h : SemE} {pos : Pos} (ho : OpOk g Xf (binaryOp op) o) (ha : SE g W Xf a f) (hb : SE g W Xf b h) : SE g W Xf (.BinOp a op b pos) (eOp o f h) := by
  obtain ⟨r, o1, o2⟩ := ho
  obtain ⟨t, p1, q1⟩ := ha
  obtain ⟨u, p2, q2⟩ := hb
  exact ⟨tOp r t u, fun i => pe_op (o1 i) (p1 i) (p2 i), rd_op o2 q1 q2⟩
theorem se_cmp {a b : Expr} {op : CmpOp} {o : U → U → Option U} {f h : SemE} {pos : Pos} (ho : OpOk g Xf (compareOp op) o) (ha : SE g W Xf a f) (hb : SE g W Xf b h) (hm : behindInMarks op b = false := by first | exact nomark _ | with_unfolding_all rfl) : SE g W Xf (.Compare a [op] [b] pos) (eOp o f h) := by
  obtain ⟨r, o1, o2⟩ := ho
  obtain ⟨t, p1, q1⟩ := ha
  obtain ⟨u, p2, q2⟩ := hb
  exact ⟨tOp r t u, fun i => pe_cmpR (o1 i) (p1 i) (p2 i) hm, rd_op o2 q1 q2⟩
/-- a value that is a bool, as a test -/
def tOf (f : SemE) : SemT := fun δ S => bnd (f δ S) fun x S => match x with
  | .d (.bool b) => some (.ok b, S)
  | _ => none
theorem rd_tOf {wd : Wd} {t : TE} {f : SemE} (h : RdE wd W t f) {tt : TT} (ht : tt = fun σ H Q => t σ H fun x H1 => ∃ c, x = .bl c ∧ Q c H1) : RdT wd W tt (tOf f) := fun G σ H δ S z S' Q s0 e k1 k2 => by
  subst ht
  rcases bnd_some e with ⟨a, S1, ea, e2⟩ | ⟨c, ec, ez⟩
  · refine h G σ H δ S _ S1 _ s0 ea (fun x ex v G1 H1 gr1 rv => ?_) (fun c ec => nomatch ec)
    cases ex
    split at e2
    · cases e2
      cases rv
      exact ⟨_, rfl, k1 _ rfl G1 H1 gr1⟩
    · cases e2
  · subst ez
    refine h G σ H δ S _ S' _ s0 ec (fun xs exs => nomatch exs) (fun c' ec' G2 H2 gr2 => ?_)
    cases ec'
    exact k2 c rfl G2 H2 gr2
theorem st_val {e : Expr} {f : SemE} (h : SE g W Xf e f) (he : ∀ i whole, isTrue e (Xf i).env whole = (do let v ← whole; standAt e.pos; holding [v] (truthy v)) := by intro _ _; rfl) : ST g W Xf e (tOf f) := by
  obtain ⟨t, p1, q1⟩ := h
  exact ⟨tB t, fun i => pt_val (p1 i) (he i), rd_tOf q1 rfl⟩
theorem st_cmp {a b : Expr} {op : CmpOp} {o : U → U → Option U} {f h : SemE} {pos : Pos} (ho : OpOk g Xf (compareOp op) o) (ha : SE g W Xf a f) (hb : SE g W Xf b h) (hm : behindInMarks op b = false := by first | exact nomark _ | with_unfolding_all rfl) : ST g W Xf (.Compare a [op] [b] pos) (tOf (eOp o f h)) := by
  obtain ⟨r, o1, o2⟩ := ho
  obtain ⟨t, p1, q1⟩ := ha
  obtain ⟨u, p2, q2⟩ := hb
  exact ⟨tTest (tOp r t u), fun i => pt_cmpR (o1 i) (p1 i) (p2 i) hm, rd_tOf (rd_op o2 q1 q2) rfl⟩
/-- a op b op' c -/
def eChain (o o' : U → U → Option U) (f h l : SemE) : SemE := fun δ S => bnd (f δ S) fun x S => bnd (h δ S) fun y S => match o x y with
  | some (.d (.bool true)) => bnd (l δ S) fun z S => (match o' y z with
    | some z => some (.ok z, S)
    | none => none)
  | some (.d (.bool false)) => some (.ok (.d (.bool false)), S)
  | _ => none
theorem rd_chain {wd : Wd} {r r' : R2} {o o' : U → U → Option U} {ta tb tc : TE} {f h l : SemE} (ho : RdO wd r o) (ho' : RdO wd r' o') (ha : RdE wd W ta f) (hb : RdE wd W tb h) (hc : RdE wd W tc l) : RdE wd W (tChain r r' ta tb tc) (eChain o o' f h l) := fun G σ H δ S z S' Q s0 e k1 k2 => by
  rcases bnd_some e with ⟨a, S1, ea, e2⟩ | ⟨c, ec, ez⟩
  · refine ha G σ H δ S _ S1 _ s0 ea (fun x ex v G1 H1 gr1 rv => ?_) (fun c ec => nomatch ec)
    cases ex
    have s1 := s0.grow gr1
    rcases bnd_some e2 with ⟨b, S2, eb, e3⟩ | ⟨c, ec, ez⟩
    · refine hb G1 σ H1 δ S1 _ S2 _ s1 eb (fun y ey w G2 H2 gr2 rw' => ?_) (fun c ec => nomatch ec)
      cases ey
      have s2 := s1.grow gr2
      split at e3
      · rename_i hz
        refine ho G2 H2 _ v w a b _ _ gr2.ok (gr2.rpU s1.ok rv) rw' hz fun v' G3 H3 gr3 r3 => ?_
        cases r3
        have s3 := s2.grow gr3
        refine ⟨true, rfl, ?_⟩
        rw [if_pos rfl]
        rcases bnd_some e3 with ⟨cv, S3, ecv, e4⟩ | ⟨c, ec, ez⟩
        · refine hc G3 σ H3 δ S2 _ S3 _ s3 ecv (fun y ey w2 G4 H4 gr4 r4 => ?_) (fun c ec => nomatch ec)
          cases ey
          split at e4
          · rename_i zz hzz
            cases e4
            refine ho' G4 H4 _ w w2 b cv zz Q gr4.ok (gr4.rpU s3.ok (gr3.rpU s2.ok rw')) r4 hzz fun v5 G5 H5 gr5 r5 => ?_
            exact k1 _ rfl v5 G5 H5 ((((gr1.trans gr2).trans gr3).trans gr4).trans gr5) r5
          · cases e4
        · subst ez
          refine hc G3 σ H3 δ S2 _ _ _ s3 ec (fun xs exs => nomatch exs) (fun c' ec' G4 H4 gr4 => ?_)
          cases ec'
          exact k2 c rfl G4 H4 (((gr1.trans gr2).trans gr3).trans gr4)
      · rename_i hz
        cases e3
        refine ho G2 H2 _ v w a b _ _ gr2.ok (gr2.rpU s1.ok rv) rw' hz fun v' G3 H3 gr3 r3 => ?_
        cases r3
        refine ⟨false, rfl, ?_⟩
        rw [if_neg Bool.false_ne_true]
        exact k1 _ rfl _ G3 H3 ((gr1.trans gr2).trans gr3) (.bl false)
      · cases e3
    · subst ez
      refine hb G1 σ H1 δ S1 _ _ _ s1 ec (fun xs exs => nomatch exs) (fun c' ec' G2 H2 gr2 => ?_)
      cases ec'
      exact k2 c rfl G2 H2 (gr1.trans gr2)
  · subst ez
    refine ha G σ H δ S _ S' _ s0 ec (fun xs exs => nomatch exs) (fun c' ec' G2 H2 gr2 => ?_)
    cases ec'
    exact k2 c rfl G2 H2 gr2
theorem se_chain {a b c : Expr} {op op' : CmpOp} {o o' : U → U → Option U} {f h l : SemE} {pos : Pos} (ho : OpOk g Xf (compareOp op) o) (ho' : OpOk g Xf (compareOp op') o') (ha : SE g W Xf a f) (hb : SE g W Xf b h) (hc : SE g W Xf c l)
    (hm : lastMarks [op, op'] [b, c] = false := by with_unfolding_all rfl) : SE g W Xf (.Compare a [op, op'] [b, c] pos) (eChain o o' f h l) := by
  obtain ⟨r, o1, o2⟩ := ho
  obtain ⟨r', o1', o2'⟩ := ho'
  obtain ⟨t, p1, q1⟩ := ha
  obtain ⟨u, p2, q2⟩ := hb
  obtain ⟨v, p3, q3⟩ := hc
  exact ⟨tChain r r' t u v, fun i => pe_chain (o1 i) (o1' i) (p1 i) (p2 i) (p3 i) hm, rd_chain o2 o2' q1 q2 q3⟩
/-! ### and, or, not, if-else -/
def eAnd (f h : SemE) : SemE := fun δ S => bnd (f δ S) fun x S => match x with
  | .d (.bool true) => h δ S
  | .d (.bool false) => some (.ok (.d (.bool false)), S)
  | _ => none
def eOr (f h : SemE) : SemE := fun δ S => bnd (f δ S) fun x S => match x with
  | .d (.bool true) => some (.ok (.d (.bool true)), S)
  | .d (.bool false) => h δ S
  | _ => none
def eNot (f : SemE) : SemE := fun δ S => bnd (f δ S) fun x S => match x with
  | .d (.bool b) => some (.ok (.d (.bool (!b))), S)
  | _ => none
def eIf (c : SemT) (f h : SemE) : SemE := fun δ S => bnd (c δ S) fun b S => if b = true then f δ S else h δ S
def tAndS (f h : SemT) : SemT := fun δ S => bnd (f δ S) fun b S => if b = true then h δ S else some (.ok false, S)
def tOrS (f h : SemT) : SemT := fun δ S => bnd (f δ S) fun b S => if b = true then some (.ok true, S) else h δ S
def tNotS (f : SemT) : SemT := fun δ S => bnd (f δ S) fun b S => some (.ok (!b), S)
theorem rd_andV {wd : Wd} {ta tb : TE} {f h : SemE} (ha : RdE wd W ta f) (hb : RdE wd W tb h) : RdE wd W (tAndV ta tb) (eAnd f h) := fun G σ H δ S z S' Q s0 e k1 k2 => by
  rcases bnd_some e with ⟨a, S1, ea, e2⟩ | ⟨c, ec, ez⟩
  · refine ha G σ H δ S _ S1 _ s0 ea (fun x ex v G1 H1 gr1 rv => ?_) (fun c ec => nomatch ec)
    cases ex
    split at e2
    · cases rv
      refine ⟨true, rfl, ?_⟩
      rw [if_pos rfl]
      exact hb G1 σ H1 δ S1 z S' Q (s0.grow gr1) e2 (fun u eu v G2 H2 gr2 r2 => k1 u eu v G2 H2 (gr1.trans gr2) r2) (fun c ec G2 H2 gr2 => k2 c ec G2 H2 (gr1.trans gr2))
    · cases e2
      cases rv
      refine ⟨false, rfl, ?_⟩
      rw [if_neg Bool.false_ne_true]
      exact k1 _ rfl _ G1 H1 gr1 (.bl false)
    · cases e2
  · subst ez
    refine ha G σ H δ S _ S' _ s0 ec (fun xs exs => nomatch exs) (fun c' ec' G2 H2 gr2 => ?_)
    cases ec'
    exact k2 c rfl G2 H2 gr2
theorem rd_notV {wd : Wd} {ta : TE} {f : SemE} (ha : RdE wd W ta f) : RdE wd W (tNotV ta) (eNot f) := fun G σ H δ S z S' Q s0 e k1 k2 => by
  rcases bnd_some e with ⟨a, S1, ea, e2⟩ | ⟨c, ec, ez⟩
  · refine ha G σ H δ S _ S1 _ s0 ea (fun x ex v G1 H1 gr1 rv => ?_) (fun c ec => nomatch ec)
    cases ex
    split at e2
    · cases e2
      cases rv
      exact ⟨_, rfl, k1 _ rfl _ G1 H1 gr1 (.bl _)⟩
    · cases e2
  · subst ez
    refine ha G σ H δ S _ S' _ s0 ec (fun xs exs => nomatch exs) (fun c' ec' G2 H2 gr2 => ?_)
    cases ec'
    exact k2 c rfl G2 H2 gr2
theorem se_one {a : Expr} {op : BoolOp} {f : SemE} {pos : Pos} (h : SE g W Xf a f) : SE g W Xf (.BoolOp op [a] pos) f := by
  obtain ⟨t, p1, q1⟩ := h
  exact ⟨t, fun i => pe_one (p1 i), q1⟩
theorem se_and {a b : Expr} {rest : List Expr} {f h : SemE} {pos : Pos} (ha : SE g W Xf a f) (hb : SE g W Xf (.BoolOp .And (b :: rest) pos) h) : SE g W Xf (.BoolOp .And (a :: b :: rest) pos) (eAnd f h) := by
  obtain ⟨t, p1, q1⟩ := ha
  obtain ⟨u, p2, q2⟩ := hb
  exact ⟨_, fun i => pe_and (p1 i) (p2 i), rd_andV q1 q2⟩
theorem se_not {a : Expr} {f : SemE} {pos : Pos} (ha : SE g W Xf a f) : SE g W Xf (.UnaryOp .Not a pos) (eNot f) := by
  obtain ⟨t, p1, q1⟩ := ha
  exact ⟨_, fun i => pe_not (p1 i), rd_notV q1⟩
theorem se_if {a b c : Expr} {l : SemT} {f h : SemE} {pos : Pos} (hc : ST g W Xf c l) (ha : SE g W Xf a f) (hb : SE g W Xf b h) : SE g W Xf (.IfExp c a b pos) (eIf l f h) := by
  obtain ⟨v, p3, q3⟩ := hc
  obtain ⟨t, p1, q1⟩ := ha
  obtain ⟨u, p2, q2⟩ := hb
  refine ⟨_, fun i => pe_ifExp (p3 i) (p1 i) (p2 i), fun G σ H δ S z S' Q s0 e k1 k2 => ?_⟩
  rcases bnd_some e with ⟨b, S1, ea, e2⟩ | ⟨c, ec, ez⟩
  · refine q3 G σ H δ S _ S1 _ s0 ea (fun x ex G1 H1 gr1 => ?_) (fun c ec => nomatch ec)
    cases ex
    cases b with
    | true =>
      rw [if_pos rfl] at e2 ⊢
      exact q1 G1 σ H1 δ S1 z S' Q (s0.grow gr1) e2 (fun u eu v G2 H2 gr2 r2 => k1 u eu v G2 H2 (gr1.trans gr2) r2) (fun c ec G2 H2 gr2 => k2 c ec G2 H2 (gr1.trans gr2))
    | false =>
      rw [if_neg Bool.false_ne_true] at e2 ⊢
      exact q2 G1 σ H1 δ S1 z S' Q (s0.grow gr1) e2 (fun u eu v G2 H2 gr2 r2 => k1 u eu v G2 H2 (gr1.trans gr2) r2) (fun c ec G2 H2 gr2 => k2 c ec G2 H2 (gr1.trans gr2))
  · subst ez
    refine q3 G σ H δ S _ S' _ s0 ec (fun xs exs => nomatch exs) (fun c' ec' G2 H2 gr2 => ?_)
    cases ec'
    exact k2 c rfl G2 H2 gr2
theorem rdT_and {wd : Wd} {ta tb : TT} {f h : SemT} (ha : RdT wd W ta f) (hb : RdT wd W tb h) : RdT wd W (tAnd ta tb) (tAndS f h) := fun G σ H δ S z S' Q s0 e k1 k2 => by
  rcases bnd_some e with ⟨b, S1, ea, e2⟩ | ⟨c, ec, ez⟩
  · refine ha G σ H δ S _ S1 _ s0 ea (fun x ex G1 H1 gr1 => ?_) (fun c ec => nomatch ec)
    cases ex
    cases b with
    | true =>
      rw [if_pos rfl] at e2 ⊢
      exact hb G1 σ H1 δ S1 z S' Q (s0.grow gr1) e2 (fun u eu G2 H2 gr2 => k1 u eu G2 H2 (gr1.trans gr2)) (fun c ec G2 H2 gr2 => k2 c ec G2 H2 (gr1.trans gr2))
    | false =>
      rw [if_neg Bool.false_ne_true] at e2 ⊢
      cases e2
      exact k1 _ rfl G1 H1 gr1
  · subst ez
    refine ha G σ H δ S _ S' _ s0 ec (fun xs exs => nomatch exs) (fun c' ec' G2 H2 gr2 => ?_)
    cases ec'
    exact k2 c rfl G2 H2 gr2
theorem rdT_or {wd : Wd} {ta tb : TT} {f h : SemT} (ha : RdT wd W ta f) (hb : RdT wd W tb h) : RdT wd W (tOr ta tb) (tOrS f h) := fun G σ H δ S z S' Q s0 e k1 k2 => by
  rcases bnd_some e with ⟨b, S1, ea, e2⟩ | ⟨c, ec, ez⟩
  · refine ha G σ H δ S _ S1 _ s0 ea (fun x ex G1 H1 gr1 => ?_) (fun c ec => nomatch ec)
    cases ex
    cases b with
    | true =>
      rw [if_pos rfl] at e2 ⊢
      cases e2
      exact k1 _ rfl G1 H1 gr1
    | false =>
      rw [if_neg Bool.false_ne_true] at e2 ⊢
      exact hb G1 σ H1 δ S1 z S' Q (s0.grow gr1) e2 (fun u eu G2 H2 gr2 => k1 u eu G2 H2 (gr1.trans gr2)) (fun c ec G2 H2 gr2 => k2 c ec G2 H2 (gr1.trans gr2))
  · subst ez
    refine ha G σ H δ S _ S' _ s0 ec (fun xs exs => nomatch exs) (fun c' ec' G2 H2 gr2 => ?_)
    cases ec'
    exact k2 c rfl G2 H2 gr2
theorem rdT_not {wd : Wd} {ta : TT} {f : SemT} (ha : RdT wd W ta f) : RdT wd W (tNot ta) (tNotS f) := fun G σ H δ S z S' Q s0 e k1 k2 => by
  rcases bnd_some e with ⟨b, S1, ea, e2⟩ | ⟨c, ec, ez⟩
  · cases e2
    refine ha G σ H δ S _ _ _ s0 ea (fun x ex G1 H1 gr1 => ?_) (fun c ec => nomatch ec)
    cases ex
    exact k1 _ rfl G1 H1 gr1
  · subst ez
    refine ha G σ H δ S _ S' _ s0 ec (fun xs exs => nomatch exs) (fun c' ec' G2 H2 gr2 => ?_)
    cases ec'
    exact k2 c rfl G2 H2 gr2
theorem sw_and1 {a : Expr} {f : SemT} {pos : Pos} (h : ST g W Xf a f) : SW g W Xf (.BoolOp .And [a] pos) f := by
  obtain ⟨t, p1, q1⟩ := h
  exact ⟨t, fun i => pw_and1 (p1 i), q1⟩
theorem sw_or1 {a : Expr} {f : SemT} {pos : Pos} (h : ST g W Xf a f) : SW g W Xf (.BoolOp .Or [a] pos) f := by
  obtain ⟨t, p1, q1⟩ := h
  exact ⟨t, fun i => pw_or1 (p1 i), q1⟩
theorem sw_and {a b : Expr} {rest : List Expr} {f h : SemT} {pos : Pos} (ha : ST g W Xf a f) (hb : SW g W Xf (.BoolOp .And (b :: rest) pos) h) : SW g W Xf (.BoolOp .And (a :: b :: rest) pos) (tAndS f h) := by
  obtain ⟨t, p1, q1⟩ := ha
  obtain ⟨u, p2, q2⟩ := hb
  exact ⟨_, fun i => pw_and (p1 i) (p2 i), rdT_and q1 q2⟩
theorem sw_or {a b : Expr} {rest : List Expr} {f h : SemT} {pos : Pos} (ha : ST g W Xf a f) (hb : SW g W Xf (.BoolOp .Or (b :: rest) pos) h) : SW g W Xf (.BoolOp .Or (a :: b :: rest) pos) (tOrS f h) := by
  obtain ⟨t, p1, q1⟩ := ha
  obtain ⟨u, p2, q2⟩ := hb
  exact ⟨_, fun i => pw_or (p1 i) (p2 i), rdT_or q1 q2⟩
theorem st_not {a : Expr} {f : SemT} {pos : Pos} (ha : ST g W Xf a f) : ST g W Xf (.UnaryOp .Not a pos) (tNotS f) := by
  obtain ⟨t, p1, q1⟩ := ha
  exact ⟨_, fun i => pt_not (p1 i), rdT_not q1⟩
end
end DL
set_option maxHeartbeats 1000000
/-! The data layer: operators. -/
namespace DL
open PySem L2 PySem.W PySem.SeqAt
mutual
theorem dp_plain {K : PySem.W.Frag} {H : Hp} : ∀ (d : PyData) (v : V), Dp K H v d → d.plain = true
  | .none, _, _ => by rw [PyData.plain]
  | .bool _, _, _ => by rw [PyData.plain]
  | .int _, _, _ => by rw [PyData.plain]
  | .str _, _, _ => by rw [PyData.plain]
  | .list ds, _, h => by
    cases h with
    | lst _ ha =>
      rw [PyData.plain]
      exact dpAll_plain ds _ ha
  | .tuple ds, _, h => by
    cases h with
    | tup _ ha =>
      rw [PyData.plain]
      exact dpAll_plain ds _ ha
  | .dict _, _, h => by cases h
theorem dpAll_plain {K : PySem.W.Frag} {H : Hp} : ∀ (ds : List PyData) (vs : List V), DpAll K H vs ds → PyData.plainAll ds = true
  | [], _, _ => by rw [PyData.plainAll]
  | d :: ds, _, h => by
    cases h with
    | cons h1 h2 =>
      rw [PyData.plainAll, dp_plain d _ h1, dpAll_plain ds _ h2]
      rfl
end
/-- comparisons of data -/
def rD2 (K : PySem.W.Frag) (p : PyData → PyData → Option Bool) : R2 := fun x y H Q => ∃ d e b, Dp K H x d ∧ Dp K H y e ∧ p d e = some b ∧ Q (.bl b) H
def cD (p : PyData → PyData → Option Bool) : U → U → Option U
  | .d x, .d y => match p x y with
    | some b => some (.d (.bool b))
    | none => none
  | _, _ => none
theorem rdO_cD {wd : Wd} (p : PyData → PyData → Option Bool) : RdO wd (rD2 wd.K p) (cD p) := fun G H S x y u w z Q ok rx ry e k => by
  unfold cD at e
  split at e
  · split at e
    · rename_i b hb
      cases e
      exact ⟨_, _, b, Rp.dp _ _ _ rx, Rp.dp _ _ _ ry, hb, k _ G H (Grow.refl ok) (.bl b)⟩
    · cases e
  · cases e
def dOk (d : PyData) : Bool := decide (d.depth ≤ 100)
def eqP (d e : PyData) : Option Bool := if (dOk d || dOk e) = true then some (PyData.eqv d e) else none
def neP (d e : PyData) : Option Bool := if (dOk d || dOk e) = true then some (!PyData.eqv d e) else none
def isNon : PyData → Bool
  | .none => true
  | _ => false
def ltP : PyData → PyData → Option Bool
  | .int a, .int b => some (decide (a < b))
  | d, e => if (alike d e && !isNon d && dOk d) = true then some (dataLt d e) else none
def gtP : PyData → PyData → Option Bool
  | .int a, .int b => some (decide (b < a))
  | d, e => if (alike d e && !isNon d && dOk d) = true then some (dataLt e d) else none
def leP : PyData → PyData → Option Bool
  | .int a, .int b => some (decide (a ≤ b))
  | d, e => if (alike d e && !isNon d && dOk d) = true then some (!dataLt e d) else none
def inP : PyData → PyData → Option Bool
  | d, .list xs => if dOk d = true then some (xs.any fun y => PyData.eqv y d) else none
  | d, .tuple xs => if dOk d = true then some (xs.any fun y => PyData.eqv y d) else none
  | .str a, .str b => some (!(Builtin.Str.occurrences b a 0 b.length 1).isEmpty)
  | _, _ => none
def notInP : PyData → PyData → Option Bool
  | d, .list xs => if dOk d = true then some (!xs.any fun y => PyData.eqv y d) else none
  | d, .tuple xs => if dOk d = true then some (!xs.any fun y => PyData.eqv y d) else none
  | .str a, .str b => some (!(!(Builtin.Str.occurrences b a 0 b.length 1).isEmpty))
  | _, _ => none
def isP : PyData → PyData → Option Bool
  | d, .none => some (isNon d)
  | .bool a, .bool b => some (decide (a = b))
  | _, _ => none
def isNotP : PyData → PyData → Option Bool
  | d, .none => some (!isNon d)
  | .bool a, .bool b => some (!decide (a = b))
  | _, _ => none
section
variable {X : Cx} {k : Nat}
theorem ok2 {d e : PyData} (h : (dOk d || dOk e) = true) : min d.depth e.depth ≤ 100 := by
  rcases (Bool.or_eq_true _ _).mp h with h | h
  · exact Nat.le_trans (Nat.min_le_left _ _) (of_decide_eq_true h)
  · exact Nat.le_trans (Nat.min_le_right _ _) (of_decide_eq_true h)
theorem ok1 {d e : PyData} (h : dOk d = true) : min d.depth e.depth ≤ 100 := Nat.le_trans (Nat.min_le_left _ _) (of_decide_eq_true h)
theorem opr_eq (hr : Room k X.A) : OpR X (compareOp .Eq) (rD2 X.K eqP) := by
  intro pins s σ H x y v u Q I rx ry h
  obtain ⟨d, e, b, hd, he, hb, q⟩ := h
  obtain ⟨as, r1⟩ := Dp.reads I d x v hd rx
  obtain ⟨bs, r2⟩ := Dp.reads I e y u he ry
  unfold eqP at hb
  split at hb
  · rename_i hc
    cases hb
    exact eq_plain r1 r2 (dp_plain _ _ hd) (dp_plain _ _ he) (by have := ok2 hc; have := hr.un; omega) ⟨.bl _, H, I, rfl, q⟩
  · cases hb
theorem opr_neW (hr : X.A.units + 16 * k + 200 < cLine) : OpR X (compareOp .NotEq) (rD2 X.K neP) := by
  intro pins s σ H x y v u Q I rx ry h
  obtain ⟨d, e, b, hd, he, hb, q⟩ := h
  obtain ⟨as, r1⟩ := Dp.reads I d x v hd rx
  obtain ⟨bs, r2⟩ := Dp.reads I e y u he ry
  unfold neP at hb
  split at hb
  · rename_i hc
    cases hb
    exact ne_plain r1 r2 (dp_plain _ _ hd) (dp_plain _ _ he) (by have := ok2 hc; omega) ⟨.bl _, H, I, rfl, q⟩
  · cases hb
theorem opr_ne (hr : Room k X.A) : OpR X (compareOp .NotEq) (rD2 X.K neP) := opr_neW hr.un
theorem cond3 {d e : PyData} (h : (alike d e && !isNon d && dOk d) = true) : alike d e = true ∧ d ≠ .none ∧ dOk d = true := by
  rw [Bool.and_eq_true, Bool.and_eq_true] at h
  refine ⟨h.1.1, fun z => ?_, h.2⟩
  subst z
  exact absurd h.1.2 (by decide)
theorem opr_lt (hr : Room k X.A) : OpR X (compareOp .Lt) (rD2 X.K ltP) := by
  intro pins s σ H x y v u Q I rx ry h
  obtain ⟨d, e, b, hd, he, hb, q⟩ := h
  obtain ⟨as, r1⟩ := Dp.reads I d x v hd rx
  obtain ⟨bs, r2⟩ := Dp.reads I e y u he ry
  unfold ltP at hb
  split at hb
  · rename_i a c
    cases hb
    refine lt_data r1 r2 (by rw [alike]) (by intro z; cases z) (by have := hr.un; have e1 : (PyData.int a).depth = 0 := by rw [PyData.depth]
                                                                   rw [e1]; omega) ⟨.bl _, H, I, ?_, q⟩
    rw [dataLt_int]; exact rfl
  · split at hb
    · rename_i hc
      obtain ⟨h1, h2, h3⟩ := cond3 hc
      cases hb
      exact lt_data r1 r2 h1 h2 (by have := ok1 (e := e) h3; have := hr.un; omega) ⟨.bl _, H, I, rfl, q⟩
    · cases hb
theorem opr_gt (hr : Room k X.A) : OpR X (compareOp .Gt) (rD2 X.K gtP) := by
  intro pins s σ H x y v u Q I rx ry h
  obtain ⟨d, e, b, hd, he, hb, q⟩ := h
  obtain ⟨as, r1⟩ := Dp.reads I d x v hd rx
  obtain ⟨bs, r2⟩ := Dp.reads I e y u he ry
  unfold gtP at hb
  split at hb
  · rename_i a c
    cases hb
    refine gt_data r1 r2 (by rw [alike]) (by intro z; cases z) (by have := hr.un; have e1 : (PyData.int a).depth = 0 := by rw [PyData.depth]
                                                                   rw [e1]; omega) ⟨.bl _, H, I, ?_, q⟩
    rw [dataLt_int]; exact rfl
  · split at hb
    · rename_i hc
      obtain ⟨h1, h2, h3⟩ := cond3 hc
      cases hb
      exact gt_data r1 r2 h1 h2 (by have := ok1 (e := e) h3; have := hr.un; omega) ⟨.bl _, H, I, rfl, q⟩
    · cases hb
theorem opr_le (hr : Room k X.A) : OpR X (compareOp .LtE) (rD2 X.K leP) := by
  intro pins s σ H x y v u Q I rx ry h
  obtain ⟨d, e, b, hd, he, hb, q⟩ := h
  obtain ⟨as, r1⟩ := Dp.reads I d x v hd rx
  obtain ⟨bs, r2⟩ := Dp.reads I e y u he ry
  unfold leP at hb
  split at hb
  · rename_i a c
    cases hb
    refine le_data r1 r2 (by rw [alike]) (by intro z; cases z) (by have := hr.un; have e1 : (PyData.int a).depth = 0 := by rw [PyData.depth]
                                                                   rw [e1]; omega) ⟨.bl _, H, I, ?_, q⟩
    rw [dataLt_int, cmp_not_lt]; exact rfl
  · split at hb
    · rename_i hc
      obtain ⟨h1, h2, h3⟩ := cond3 hc
      cases hb
      exact le_data r1 r2 h1 h2 (by have := ok1 (e := e) h3; have := hr.un; omega) ⟨.bl _, H, I, rfl, q⟩
    · cases hb
theorem opr_in (hr : Room k X.A) : OpR X (compareOp .In) (rD2 X.K inP) := by
  intro pins s σ H x y v u Q I rx ry h
  obtain ⟨d, e, b, hd, he, hb, q⟩ := h
  obtain ⟨as, r1⟩ := Dp.reads I d x v hd rx
  obtain ⟨bs, r2⟩ := Dp.reads I e y u he ry
  unfold inP at hb
  split at hb
  · rename_i xs
    split at hb
    · rename_i hc
      cases hb
      have hp := dp_plain _ _ he
      rw [PyData.plain] at hp
      have hz : d.depth ≤ 100 := of_decide_eq_true hc
      exact in_list_data r2 r1 hp (dp_plain _ _ hd) (by have := Nat.min_le_right (PyData.depthAll xs) d.depth; have := hr.un; omega) ⟨.bl _, H, I, rfl, q⟩
    · cases hb
  · rename_i xs
    split at hb
    · rename_i hc
      cases hb
      have hp := dp_plain _ _ he
      rw [PyData.plain] at hp
      have hz : d.depth ≤ 100 := of_decide_eq_true hc
      exact in_tuple_data r2 r1 hp (dp_plain _ _ hd) (by have := Nat.min_le_right (PyData.depthAll xs) d.depth; have := hr.un; omega) ⟨.bl _, H, I, rfl, q⟩
    · cases hb
  · cases hb
    cases hd
    cases he
    exact op_in_str pins s σ H _ _ v u Q I rx ry ⟨_, _, rfl, rfl, q⟩
  · cases hb
theorem opr_notIn (hr : Room k X.A) : OpR X (compareOp .NotIn) (rD2 X.K notInP) := by
  intro pins s σ H x y v u Q I rx ry h
  obtain ⟨d, e, b, hd, he, hb, q⟩ := h
  obtain ⟨as, r1⟩ := Dp.reads I d x v hd rx
  obtain ⟨bs, r2⟩ := Dp.reads I e y u he ry
  unfold notInP at hb
  split at hb
  · rename_i xs
    split at hb
    · rename_i hc
      cases hb
      have hp := dp_plain _ _ he
      rw [PyData.plain] at hp
      have hz : d.depth ≤ 100 := of_decide_eq_true hc
      exact notIn_list_data r2 r1 hp (dp_plain _ _ hd) (by have := Nat.min_le_right (PyData.depthAll xs) d.depth; have := hr.un; omega) ⟨.bl _, H, I, rfl, q⟩
    · cases hb
  · rename_i xs
    split at hb
    · rename_i hc
      cases hb
      have hp := dp_plain _ _ he
      rw [PyData.plain] at hp
      have hz : d.depth ≤ 100 := of_decide_eq_true hc
      exact notIn_tuple_data r2 r1 hp (dp_plain _ _ hd) (by have := Nat.min_le_right (PyData.depthAll xs) d.depth; have := hr.un; omega) ⟨.bl _, H, I, rfl, q⟩
    · cases hb
  · cases hb
    cases hd
    cases he
    exact op_notIn_str pins s σ H _ _ v u Q I rx ry ⟨_, _, rfl, rfl, q⟩
  · cases hb
theorem dp_non {K : PySem.W.Frag} {H : Hp} {d : PyData} {v : V} (h : Dp K H v d) : decide (v = .non) = isNon d := by
  cases h <;> rfl
theorem opr_is : OpR X (compareOp .Is) (rD2 X.K isP) := by
  intro pins s σ H x y v u Q I rx ry h
  obtain ⟨d, e, b, hd, he, hb, q⟩ := h
  unfold isP at hb
  split at hb
  · cases hb
    cases he
    exact op_isN pins s σ H _ _ v u Q I rx ry ⟨rfl, by rw [dp_non hd]; exact q⟩
  · cases hb
    cases hd
    cases he
    exact op_isBl pins s σ H _ _ v u Q I rx ry ⟨_, _, rfl, rfl, q⟩
  · cases hb
theorem opr_isNot : OpR X (compareOp .IsNot) (rD2 X.K isNotP) := by
  intro pins s σ H x y v u Q I rx ry h
  obtain ⟨d, e, b, hd, he, hb, q⟩ := h
  unfold isNotP at hb
  split at hb
  · cases hb
    cases he
    exact op_notN pins s σ H _ _ v u Q I rx ry ⟨rfl, by rw [dp_non hd]; exact q⟩
  · cases hb
    cases hd
    cases he
    exact op_notBl pins s σ H _ _ v u Q I rx ry ⟨_, _, rfl, rfl, q⟩
  · cases hb
end
section
variable {g : Gb} {W : WX} {ι : Type} {Xf : ι → Cx} {k : Nat}
theorem ok_eq (F : Fm g W k Xf) : OpOk g Xf (compareOp .Eq) (cD eqP) := ⟨_, fun i => F.K i ▸ opr_eq (F.room i), rdO_cD _⟩
theorem ok_ne (F : Fm g W k Xf) : OpOk g Xf (compareOp .NotEq) (cD neP) := ⟨_, fun i => F.K i ▸ opr_ne (F.room i), rdO_cD _⟩
theorem ok_lt (F : Fm g W k Xf) : OpOk g Xf (compareOp .Lt) (cD ltP) := ⟨_, fun i => F.K i ▸ opr_lt (F.room i), rdO_cD _⟩
theorem ok_gt (F : Fm g W k Xf) : OpOk g Xf (compareOp .Gt) (cD gtP) := ⟨_, fun i => F.K i ▸ opr_gt (F.room i), rdO_cD _⟩
theorem ok_le (F : Fm g W k Xf) : OpOk g Xf (compareOp .LtE) (cD leP) := ⟨_, fun i => F.K i ▸ opr_le (F.room i), rdO_cD _⟩
theorem ok_in (F : Fm g W k Xf) : OpOk g Xf (compareOp .In) (cD inP) := ⟨_, fun i => F.K i ▸ opr_in (F.room i), rdO_cD _⟩
theorem ok_notIn (F : Fm g W k Xf) : OpOk g Xf (compareOp .NotIn) (cD notInP) := ⟨_, fun i => F.K i ▸ opr_notIn (F.room i), rdO_cD _⟩
theorem ok_is (F : Fm g W k Xf) : OpOk g Xf (compareOp .Is) (cD isP) := ⟨_, fun i => F.K i ▸ opr_is, rdO_cD _⟩
theorem ok_isNot (F : Fm g W k Xf) : OpOk g Xf (compareOp .IsNot) (cD isNotP) := ⟨_, fun i => F.K i ▸ opr_isNot, rdO_cD _⟩
/-! ### arithmetic -/
theorem opr_or {X : Cx} {f : Value → Value → Sem Value} {r r' : R2} (h : OpR X f r) (h' : OpR X f r') : OpR X f (fun x y H Q => r x y H Q ∨ r' x y H Q) := by
  intro pins s σ H x y v u Q I rx ry q
  rcases q with q | q
  · exact h pins s σ H x y v u Q I rx ry q
  · exact h' pins s σ H x y v u Q I rx ry q
def LIM : Nat := 1000000
theorem lim_sz {n : Nat} (h : n ≤ LIM) : n ≤ sizeLine := Nat.le_trans h (by decide)
def oAdd : U → U → Option U
  | .d (.int a), .d (.int b) => some (.d (.int (a + b)))
  | .d (.str a), .d (.str b) => if a.length + b.length ≤ LIM then some (.d (.str (a ++ b))) else none
  | .d (.list a), .d (.list b) => if a.length + b.length ≤ LIM then some (.d (.list (a ++ b))) else none
  | .d (.tuple a), .d (.tuple b) => if a.length + b.length ≤ LIM then some (.d (.tuple (a ++ b))) else none
  | _, _ => none
theorem ok_add (F : Fm g W k Xf) : OpOk g Xf (binaryOp .Add) oAdd := by
  refine ⟨_, fun i => opr_or op_add (opr_or op_add_str (opr_or op_cat (F.K i ▸ op_catA))), fun G H S x y u w z Q ok rx ry e k => ?_⟩
  unfold oAdd at e
  split at e
  · cases e
    cases rx
    cases ry
    exact .inl ⟨_, _, rfl, rfl, k _ G H (Grow.refl ok) (.int _)⟩
  · split at e
    · rename_i hl
      cases e
      cases rx
      cases ry
      exact .inr (.inl ⟨_, _, rfl, rfl, lim_sz hl, k _ G H (Grow.refl ok) (.str _)⟩)
    · cases e
  · split at e
    · rename_i hl
      cases e
      cases rx with
      | lst f1 h1 r1 =>
        cases ry with
        | lst f2 h2 r2 =>
          refine .inr (.inr (.inl ⟨_, _, _, _, rfl, rfl, h1, h2, lim_sz (by rw [r1.length, r2.length]; exact hl), fun p hp => ?_⟩))
          exact k _ G _ (Grow.new ok hp) (.lst (ok.fresh p hp) upd_same ((Grow.new ok hp).rpAll ok (r1.append r2)))
    · cases e
  · split at e
    · rename_i hl
      cases e
      cases rx with
      | tup h1 r1 =>
        cases ry with
        | tup h2 r2 =>
          refine .inr (.inr (.inr ⟨_, _, _, _, rfl, rfl, .inl (.inl h1), .inl (.inl h2), lim_sz (by rw [r1.length, r2.length]; exact hl), fun e1 => ?_, fun e1 e2 => ?_, fun e1 e2 p hp => ?_⟩))
          · subst e1
            cases r1
            exact k _ G H (Grow.refl ok) (.tup h2 r2)
          · subst e2
            cases r2
            exact k _ G H (Grow.refl ok) (.tup h1 (by rw [List.append_nil]; exact r1))
          · exact k _ G _ (Grow.new ok hp) (.tup upd_same ((Grow.new ok hp).rpAll ok (r1.append r2)))
    · cases e
  · cases e
def oSub : U → U → Option U
  | .d (.int a), .d (.int b) => some (.d (.int (a - b)))
  | _, _ => none
theorem ok_sub (F : Fm g W k Xf) : OpOk g Xf (binaryOp .Sub) oSub := by
  refine ⟨_, fun i => op_sub, fun G H S x y u w z Q ok rx ry e k => ?_⟩
  unfold oSub at e
  split at e
  · cases e
    cases rx
    cases ry
    exact ⟨_, _, rfl, rfl, k _ G H (Grow.refl ok) (.int _)⟩
  · cases e
def rep (n : Nat) (xs : List PyData) : List PyData := (List.replicate n xs).flatten
theorem rp_rep {F : Addr → Prop} {H : Hp} {vs : List V} {ds : List PyData} (h : RpAll F H vs ds) : ∀ n, RpAll F H (List.replicate n vs).flatten (rep n ds)
  | 0 => .nil
  | n + 1 => by
    unfold rep
    rw [List.replicate_succ, List.replicate_succ, List.flatten_cons, List.flatten_cons]
    exact h.append (rp_rep h n)
def oMul : U → U → Option U
  | .d (.int a), .d (.int b) => if a.natAbs < 2 ^ 63 ∨ b.natAbs < 2 ^ 63 then some (.d (.int (a * b))) else none
  | .d (.list a), .d (.int b) => if 0 ≤ b ∧ b ≤ 1000 ∧ a.length ≤ 1000 then some (.d (.list (rep b.toNat a))) else none
  | .d (.tuple a), .d (.int b) => if 2 ≤ b ∧ b ≤ 1000 ∧ a.length ≤ 1000 ∧ 0 < a.length then some (.d (.tuple (rep b.toNat a))) else none
  | _, _ => none
theorem ok_mul (F : Fm g W k Xf) : OpOk g Xf (binaryOp .Mult) oMul := by
  refine ⟨_, fun i => opr_or op_mul (opr_or op_rep (F.K i ▸ op_repT)), fun G H S x y u w z Q ok rx ry e k => ?_⟩
  unfold oMul at e
  split at e
  · split at e
    · rename_i hl
      cases e
      cases rx
      cases ry
      exact .inl ⟨_, _, rfl, rfl, hl.elim (fun h => .inl (by constructor <;> omega)) (fun h => .inr (by constructor <;> omega)), k _ G H (Grow.refl ok) (.int _)⟩
    · cases e
  · split at e
    · rename_i hl
      cases e
      cases rx with
      | lst f1 h1 r1 =>
        cases ry
        refine .inr (.inl ⟨_, _, _, rfl, rfl, h1, by omega, by omega, ?_, fun p hp => ?_⟩)
        · rw [r1.length]
          refine Nat.le_trans (Nat.mul_le_mul hl.2.2 (show _ ≤ 1000 by omega)) (by decide)
        · exact k _ G _ (Grow.new ok hp) (.lst (ok.fresh p hp) upd_same ((Grow.new ok hp).rpAll ok (rp_rep r1 _)))
    · cases e
  · split at e
    · rename_i hl
      cases e
      cases rx with
      | tup h1 r1 =>
        cases ry
        have hlen := r1.length
        refine .inr (.inr ⟨_, _, _, rfl, rfl, .inl (.inl h1), ?_, hl.1, hl.2.1, by omega, fun p hp => ?_⟩)
        · intro z
          subst z
          have := hl.2.2.2
          rw [← hlen] at this
          exact absurd this (by decide)
        · exact k _ G _ (Grow.new ok hp) (.tup upd_same ((Grow.new ok hp).rpAll ok (rp_rep r1 _)))
    · cases e
  · cases e
def oFdiv : U → U → Option U
  | .d (.int a), .d (.int b) => if b ≠ 0 ∧ b.natAbs < 1073741824 then some (.d (.int (a.fdiv b))) else none
  | _, _ => none
theorem ok_fdiv (F : Fm g W k Xf) : OpOk g Xf (binaryOp .FloorDiv) oFdiv := by
  refine ⟨_, fun i => op_fdivN, fun G H S x y u w z Q ok rx ry e k => ?_⟩
  unfold oFdiv at e
  split at e
  · split at e
    · rename_i hl
      cases e
      cases rx
      cases ry
      exact ⟨_, _, rfl, rfl, hl, k _ G H (Grow.refl ok) (.int _)⟩
    · cases e
  · cases e
def oMod : U → U → Option U
  | .d (.int a), .d (.int b) => if b ≠ 0 then some (.d (.int (a.fmod b))) else none
  | _, _ => none
theorem ok_mod (F : Fm g W k Xf) : OpOk g Xf (binaryOp .Mod) oMod := by
  refine ⟨_, fun i => op_modN, fun G H S x y u w z Q ok rx ry e k => ?_⟩
  unfold oMod at e
  split at e
  · split at e
    · rename_i hl
      cases e
      cases rx
      cases ry
      exact ⟨_, _, rfl, rfl, hl, k _ G H (Grow.refl ok) (.int _)⟩
    · cases e
  · cases e
def oPow : U → U → Option U
  | .d (.int a), .d (.int b) => if 0 ≤ b ∧ b ≤ 1000000 ∧ a.natAbs < 2 ^ 64 then some (.d (.int (a ^ b.toNat))) else none
  | _, _ => none
theorem ok_pow (F : Fm g W k Xf) : OpOk g Xf (binaryOp .Pow) oPow := by
  refine ⟨_, fun i => op_pow, fun G H S x y u w z Q ok rx ry e k => ?_⟩
  unfold oPow at e
  split at e
  · split at e
    · rename_i hl
      cases e
      cases rx
      cases ry
      exact ⟨_, _, rfl, rfl, hl, k _ G H (Grow.refl ok) (.int _)⟩
    · cases e
  · cases e
end
end DL
set_option maxHeartbeats 1000000
/-! The data layer: calls of built-ins, subscripts, slices. -/
namespace DL
open PySem L2 PySem.W PySem.SeqAt
/-! ### built-ins by name -/
def RdC (wd : Wd) (r : List V → Hp → VK → Prop) (op : List U → Option U) : Prop := ∀ (G : Gh) (H : Hp) (S : Sto) (vs : List V) (us : List U) (z : U) (Q : VK), GOk wd G H S → RpUs wd G H vs us → op us = some z →
  (∀ v G' H', Grow wd G H G' H' S → RpU wd G' H' v z → Q v H') → r vs H Q
/-- .. a new list comes back -/
def RdCF (wd : Wd) (r : List V → Hp → VK → Prop) (op : List U → Option U) : Prop := ∀ (G : Gh) (H : Hp) (S : Sto) (vs : List V) (us : List U) (z : U) (Q : VK), GOk wd G H S → RpUs wd G H vs us → op us = some z →
  (∀ ds, z = .d (.list ds) → ∀ p vs G' H', H p = none → G'.F p → Grow wd G H G' H' S → H' p = some (.lst vs) → RpAll (fun a => G'.F a ∧ a ≠ p) H' vs ds → Q (.ref p) H') → r vs H Q
def CallOk (g : Gb) {ι : Type} (Xf : ι → Cx) (f : Value) (op : List U → Option U) : Prop := ∃ r, (∀ i, CallR (Xf i) f r) ∧ RdC g.wd r op
def CallOkF (g : Gb) {ι : Type} (Xf : ι → Cx) (f : Value) (op : List U → Option U) : Prop := ∃ r, (∀ i, CallR (Xf i) f r) ∧ RdCF g.wd r op
def eBc (op : List U → Option U) (a : SemA) : SemE := fun δ S => bnd (a δ S) fun us S => match op us with
  | some z => some (.ok z, S)
  | none => none
section
variable {g : Gb} {W : WX} {ι : Type} {Xf : ι → Cx} {k : Nat}
theorem rd_cb {wd : Wd} {r : List V → Hp → VK → Prop} {op : List U → Option U} {t : TA} {a : SemA} (hr : RdC wd r op) (ha : RdA wd W t a) : RdE wd W (tCB r t) (eBc op a) := fun G σ H δ S z S' Q s0 e k1 k2 => by
  rcases bnd_some e with ⟨us, S1, ea, e2⟩ | ⟨c, ec, ez⟩
  · refine ha G σ H δ S _ S1 _ s0 ea (fun x ex vs G1 H1 gr1 rv => ?_) (fun c ec => nomatch ec)
    cases ex
    split at e2
    · rename_i zz hz
      cases e2
      exact hr G1 H1 _ vs us zz Q gr1.ok rv hz fun v G2 H2 gr2 r2 => k1 _ rfl v G2 H2 (gr1.trans gr2) r2
    · cases e2
  · subst ez
    refine ha G σ H δ S _ S' _ s0 ec (fun xs exs => nomatch exs) (fun c' ec' G2 H2 gr2 => ?_)
    cases ec'
    exact k2 c rfl G2 H2 gr2
theorem rd_cbF {wd : Wd} {r : List V → Hp → VK → Prop} {op : List U → Option U} {t : TA} {a : SemA} (hr : RdCF wd r op) (ha : RdA wd W t a) : RdF wd W (tCB r t) (eBc op a) := fun G σ H δ S z S' Q s0 e k1 k2 => by
  rcases bnd_some e with ⟨us, S1, ea, e2⟩ | ⟨c, ec, ez⟩
  · refine ha G σ H δ S _ S1 _ s0 ea (fun x ex vs G1 H1 gr1 rv => ?_) (fun c ec => nomatch ec)
    cases ex
    split at e2
    · rename_i zz hz
      cases e2
      refine hr G1 H1 _ vs us zz Q gr1.ok rv hz fun ds ed p ws G2 H2 hp fp gr2 hl ra => ?_
      subst ed
      exact k1 ds rfl p ws G2 H2 (gr1.none_of hp) fp (gr1.trans gr2) hl ra
    · cases e2
  · subst ez
    refine ha G σ H δ S _ S' _ s0 ec (fun xs exs => nomatch exs) (fun c' ec' G2 H2 gr2 => ?_)
    cases ec'
    exact k2 c rfl G2 H2 gr2
theorem se_callB {x : Str} {id : String} {e : Expr} {es : List Expr} {op : List U → Option U} {a : SemA} {p pos : Pos} (F : Fm g W k Xf) (hm : g.mg x = none) (hv : bootBuiltins x = some (.builtin id)) (hc : CallOk g Xf (.builtin id) op) (ha : SA g W Xf (e :: es) a)
    (hg : ∀ i, Gl (Xf i) x := by intro _; rfl) (hn : x ≠ "__name__" := by decide) (hdb : (x == ("__debug__" : Str)) = false := by decide)
    (he : ∀ i, starEach (e :: es) (Xf i).env = (false, eval e (Xf i).env) :: starEach es (Xf i).env := by intro _; rfl) (hpl : ∀ i, (backTo pos (starEach es (Xf i).env)).any (·.1) = false := by intro _; rfl) :
    SE g W Xf (.Call (.Name x p) (e :: es) [] pos) (eBc op a) := by
  obtain ⟨r, c1, c2⟩ := hc
  obtain ⟨t, p1, q1⟩ := ha
  exact ⟨_, fun i => pe_callB (c1 i) (hg i) (by rw [F.mg i]; exact hm) hv (p1 i) hn hdb (he i) (hpl i), rd_cb c2 q1⟩
theorem se_callTy {x : Str} {T : String} {e : Expr} {es : List Expr} {op : List U → Option U} {a : SemA} {p pos : Pos} (F : Fm g W k Xf) (hm : g.mg x = none) (hv : bootBuiltins x = some (.type T)) (hc : CallOk g Xf (.type T) op) (ha : SA g W Xf (e :: es) a)
    (hg : ∀ i, Gl (Xf i) x := by intro _; rfl) (hn : x ≠ "__name__" := by decide) (hdb : (x == ("__debug__" : Str)) = false := by decide)
    (he : ∀ i, starEach (e :: es) (Xf i).env = (false, eval e (Xf i).env) :: starEach es (Xf i).env := by intro _; rfl) (hpl : ∀ i, (backTo pos (starEach es (Xf i).env)).any (·.1) = false := by intro _; rfl) :
    SE g W Xf (.Call (.Name x p) (e :: es) [] pos) (eBc op a) := by
  obtain ⟨r, c1, c2⟩ := hc
  obtain ⟨t, p1, q1⟩ := ha
  exact ⟨_, fun i => pe_callTy (c1 i) (hg i) (by rw [F.mg i]; exact hm) hv (p1 i) hn hdb (he i) (hpl i), rd_cb c2 q1⟩
theorem sf_callB {x : Str} {id : String} {e : Expr} {es : List Expr} {op : List U → Option U} {a : SemA} {p pos : Pos} (F : Fm g W k Xf) (hm : g.mg x = none) (hv : bootBuiltins x = some (.builtin id)) (hc : CallOkF g Xf (.builtin id) op) (ha : SA g W Xf (e :: es) a)
    (hg : ∀ i, Gl (Xf i) x := by intro _; rfl) (hn : x ≠ "__name__" := by decide) (hdb : (x == ("__debug__" : Str)) = false := by decide)
    (he : ∀ i, starEach (e :: es) (Xf i).env = (false, eval e (Xf i).env) :: starEach es (Xf i).env := by intro _; rfl) (hpl : ∀ i, (backTo pos (starEach es (Xf i).env)).any (·.1) = false := by intro _; rfl) :
    SF g W Xf (.Call (.Name x p) (e :: es) [] pos) (eBc op a) := by
  obtain ⟨r, c1, c2⟩ := hc
  obtain ⟨t, p1, q1⟩ := ha
  exact ⟨_, fun i => pe_callB (c1 i) (hg i) (by rw [F.mg i]; exact hm) hv (p1 i) hn hdb (he i) (hpl i), rd_cbF c2 q1⟩
theorem sf_callTy {x : Str} {T : String} {e : Expr} {es : List Expr} {op : List U → Option U} {a : SemA} {p pos : Pos} (F : Fm g W k Xf) (hm : g.mg x = none) (hv : bootBuiltins x = some (.type T)) (hc : CallOkF g Xf (.type T) op) (ha : SA g W Xf (e :: es) a)
    (hg : ∀ i, Gl (Xf i) x := by intro _; rfl) (hn : x ≠ "__name__" := by decide) (hdb : (x == ("__debug__" : Str)) = false := by decide)
    (he : ∀ i, starEach (e :: es) (Xf i).env = (false, eval e (Xf i).env) :: starEach es (Xf i).env := by intro _; rfl) (hpl : ∀ i, (backTo pos (starEach es (Xf i).env)).any (·.1) = false := by intro _; rfl) :
    SF g W Xf (.Call (.Name x p) (e :: es) [] pos) (eBc op a) := by
  obtain ⟨r, c1, c2⟩ := hc
  obtain ⟨t, p1, q1⟩ := ha
  exact ⟨_, fun i => pe_callTy (c1 i) (hg i) (by rw [F.mg i]; exact hm) hv (p1 i) hn hdb (he i) (hpl i), rd_cbF c2 q1⟩
theorem rpUs1 {wd : Wd} {G : Gh} {H : Hp} {vs : List V} {u : U} (h : RpUs wd G H vs [u]) : ∃ v, vs = [v] ∧ RpU wd G H v u := by
  cases h with
  | cons h t =>
    cases t
    exact ⟨_, rfl, h⟩
theorem rpUs2 {wd : Wd} {G : Gh} {H : Hp} {vs : List V} {u w : U} (h : RpUs wd G H vs [u, w]) : ∃ v z, vs = [v, z] ∧ RpU wd G H v u ∧ RpU wd G H z w := by
  cases h with
  | cons h t =>
    cases t with
    | cons h2 t =>
      cases t
      exact ⟨_, _, rfl, h, h2⟩
/-! ### len -/
def oLen : List U → Option U
  | [.d (.list xs)] => some (.d (.int xs.length))
  | [.d (.tuple xs)] => some (.d (.int xs.length))
  | _ => none
theorem ok_len (F : Fm g W k Xf) : CallOk g Xf (.builtin "len") oLen := by
  refine ⟨fun xs H Q => ∃ p ys, xs = [.ref p] ∧ (SqL g.wd.K H p ys ∨ SqT g.wd.K H p ys) ∧ Q (.int ys.length) H, fun i => F.K i ▸ call_len_seq, fun G H S vs us z Q ok rv e k => ?_⟩
  unfold oLen at e
  split at e
  · cases e
    obtain ⟨v, rfl, h⟩ := rpUs1 rv
    cases h with
    | lst f h r => exact ⟨_, _, rfl, .inl (.inl (.inl h)), by rw [r.length]; exact k _ G H (Grow.refl ok) (.int _)⟩
  · cases e
    obtain ⟨v, rfl, h⟩ := rpUs1 rv
    cases h with
    | tup h r => exact ⟨_, _, rfl, .inr (.inl (.inl h)), by rw [r.length]; exact k _ G H (Grow.refl ok) (.int _)⟩
  · cases e
/-! ### all, any -/
def allB : List PyData → Option (List Bool)
  | [] => some []
  | .bool b :: r => match allB r with
    | some bs => some (b :: bs)
    | none => none
  | _ :: _ => none
theorem allB_vs {F : Addr → Prop} {H : Hp} : ∀ {ds : List PyData} {vs : List V} {bs : List Bool}, RpAll F H vs ds → allB ds = some bs → vs = bs.map V.bl
  | [], _, _, h, e => by
    cases h
    cases e
    rfl
  | d :: ds, _, _, h, e => by
    cases h with
    | cons h t =>
      cases d with
      | bool b =>
        unfold allB at e
        split at e
        · rename_i bs hb
          cases e
          cases h
          rw [allB_vs t hb]
          rfl
        · cases e
      | none => cases e
      | int _ => cases e
      | str _ => cases e
      | list _ => cases e
      | tuple _ => cases e
      | dict _ => cases e
def oAll : List U → Option U
  | [.d (.list xs)] => match allB xs with
    | some bs => some (.d (.bool (bs.all id)))
    | none => none
  | _ => none
def oAny : List U → Option U
  | [.d (.list xs)] => match allB xs with
    | some bs => some (.d (.bool (bs.any id)))
    | none => none
  | _ => none
theorem ok_all (F : Fm g W k Xf) : CallOk g Xf (.builtin "all") oAll := by
  refine ⟨rAll g.wd.K, fun i => F.K i ▸ cr_all (F.calm i), fun G H S vs us z Q ok rv e k => ?_⟩
  unfold oAll at e
  split at e
  · split at e
    · rename_i bs hb
      cases e
      obtain ⟨v, rfl, h⟩ := rpUs1 rv
      cases h with
      | lst f h r =>
        have hv := allB_vs r hb
        subst hv
        exact ⟨_, bs, rfl, .inl (.inl h), k _ G H (Grow.refl ok) (.bl _)⟩
    · cases e
  · cases e
theorem ok_any (F : Fm g W k Xf) : CallOk g Xf (.builtin "any") oAny := by
  refine ⟨rAny g.wd.K, fun i => F.K i ▸ cr_any (F.calm i), fun G H S vs us z Q ok rv e k => ?_⟩
  unfold oAny at e
  split at e
  · split at e
    · rename_i bs hb
      cases e
      obtain ⟨v, rfl, h⟩ := rpUs1 rv
      cases h with
      | lst f h r =>
        have hv := allB_vs r hb
        subst hv
        exact ⟨_, bs, rfl, .inl (.inl h), k _ G H (Grow.refl ok) (.bl _)⟩
    · cases e
  · cases e
/-! ### list(x), tuple(x) -/
def oList : List U → Option U
  | [.d (.list xs)] => some (.d (.list xs))
  | [.d (.tuple xs)] => some (.d (.list xs))
  | _ => none
theorem ok_list (F : Fm g W k Xf) : CallOkF g Xf (.type "list") oList := by
  refine ⟨fun xs H Q => ∃ p ys, xs = [.ref p] ∧ (SqL g.wd.K H p ys ∨ SqT g.wd.K H p ys) ∧ ∀ l, H l = none → Q (.ref l) (upd H l (.lst ys)), fun i => F.K i ▸ call_list_of, fun G H S vs us z Q ok rv e k => ?_⟩
  unfold oList at e
  split at e
  · cases e
    obtain ⟨v, rfl, h⟩ := rpUs1 rv
    cases h with
    | lst f h r => exact ⟨_, _, rfl, .inl (.inl (.inl h)), fun p hp => k _ rfl p _ G _ hp (ok.fresh p hp) (Grow.new ok hp) upd_same (new_lst ok hp r)⟩
  · cases e
    obtain ⟨v, rfl, h⟩ := rpUs1 rv
    cases h with
    | tup h r => exact ⟨_, _, rfl, .inr (.inl (.inl h)), fun p hp => k _ rfl p _ G _ hp (ok.fresh p hp) (Grow.new ok hp) upd_same (new_lst ok hp r)⟩
  · cases e
def oTuple : List U → Option U
  | [.d (.list xs)] => some (.d (.tuple xs))
  | [.d (.tuple xs)] => some (.d (.tuple xs))
  | _ => none
theorem ok_tuple (F : Fm g W k Xf) : CallOk g Xf (.type "tuple") oTuple := by
  refine ⟨fun xs H Q => ∃ p ys, xs = [.ref p] ∧ ((SqL g.wd.K H p ys ∧ ∀ l, H l = none → Q (.ref l) (upd H l (.tup ys))) ∨ (SqT g.wd.K H p ys ∧ Q (.ref p) H)), fun i => F.K i ▸ call_tuple_of, fun G H S vs us z Q ok rv e k => ?_⟩
  unfold oTuple at e
  split at e
  · cases e
    obtain ⟨v, rfl, h⟩ := rpUs1 rv
    cases h with
    | lst f h r => exact ⟨_, _, rfl, .inl ⟨.inl (.inl h), fun p hp => k _ G _ (Grow.new ok hp) (.tup upd_same ((Grow.new ok hp).rpAll ok r))⟩⟩
  · cases e
    obtain ⟨v, rfl, h⟩ := rpUs1 rv
    cases h with
    | tup h r => exact ⟨_, _, rfl, .inr ⟨.inl (.inl h), k _ G H (Grow.refl ok) (.tup h r)⟩⟩
  · cases e
/-! ### min, max of two ints -/
def oMin2 : List U → Option U
  | [.d (.int i), .d (.int j)] => some (.d (.int (if j < i then j else i)))
  | _ => none
def oMax2 : List U → Option U
  | [.d (.int i), .d (.int j)] => some (.d (.int (if j > i then j else i)))
  | _ => none
theorem ok_min2 (F : Fm g W k Xf) : CallOk g Xf (.builtin "min") oMin2 := by
  refine ⟨_, fun i => call_min2 (F.calm i), fun G H S vs us z Q ok rv e k => ?_⟩
  unfold oMin2 at e
  split at e
  · cases e
    obtain ⟨v, w, rfl, h1, h2⟩ := rpUs2 rv
    cases h1
    cases h2
    exact ⟨_, _, rfl, k _ G H (Grow.refl ok) (.int _)⟩
  · cases e
theorem ok_max2 (F : Fm g W k Xf) : CallOk g Xf (.builtin "max") oMax2 := by
  refine ⟨_, fun i => call_max2 (F.calm i), fun G H S vs us z Q ok rv e k => ?_⟩
  unfold oMax2 at e
  split at e
  · cases e
    obtain ⟨v, w, rfl, h1, h2⟩ := rpUs2 rv
    cases h1
    cases h2
    exact ⟨_, _, rfl, k _ G H (Grow.refl ok) (.int _)⟩
  · cases e
/-! ### sorted(list) -/
def isTupC : PyData → Bool
  | .tuple (_ :: _) => true
  | _ => false
def isPlainK : PyData → Bool
  | .none => false
  | .tuple _ => false
  | _ => true
def sortOk (ds : List PyData) : Bool := (ds.all fun d => ds.all fun e => alike d e) && (ds.all isTupC || ds.all isPlainK) && ds.all dOk && decide (ds.length ≤ LIM)
def leD (a b : PyData) : Bool := !dataLt b a
def sortD (ds : List PyData) : List PyData := ds.mergeSort leD
def rSortD (K : PySem.W.Frag) : List V → Hp → VK → Prop := fun xs H Q => ∃ (a : Addr) (ps : List (V × PyData)), xs = [.ref a] ∧ H a = some (.lst (ps.map (·.1))) ∧ (∀ p ∈ ps, Dp K H p.1 p.2) ∧ sortOk (ps.map (·.2)) = true ∧
  ∀ q, H q = none → Q (.ref q) (upd H q (.lst ((ps.mergeSort fun a b => leD a.2 b.2).map (·.1))))
theorem each_of_vals : ∀ {ps : List (V × PyData)} {us : List Value}, Vals (ps.map (·.1)) us → EachIs (fun u p => RelV p.1 u) us ps
  | [], _, .nil => .nil
  | p :: ps, _, .cons r t => .cons r (each_of_vals t)
theorem vals_of_each : ∀ {ps : List (V × PyData)} {us : List Value}, EachIs (fun u p => RelV p.1 u) us ps → Vals (ps.map (·.1)) us
  | _, _, .nil => .nil
  | _, _, .cons r t => .cons r (vals_of_each t)
theorem each_reads {X : Cx} {pins : List (Addr × Obj)} {σ : L2.St} {H : Hp} {s : Shared} (I : Inv X pins σ H s) : ∀ {ps : List (V × PyData)} {us : List Value}, (∀ p ∈ ps, Dp X.K H p.1 p.2) → EachIs (fun u p => RelV p.1 u) us ps → EachIs (fun (u : Value) (p : V × PyData) => ∃ as, Reads s.heap u p.2 as) us ps
  | _, _, _, .nil => .nil
  | _, _, h, .cons r t => .cons (Dp.reads I _ _ _ (h _ List.mem_cons_self) r) (each_reads I (fun p hp => h p (List.mem_cons_of_mem _ hp)) t)
theorem sortOk_alike {ds : List PyData} (h : sortOk ds = true) : AllAlike ds ∧ Sortable ds ∧ (∀ d ∈ ds, d.depth ≤ 100) ∧ ds.length ≤ LIM := by
  unfold sortOk at h
  rw [Bool.and_eq_true, Bool.and_eq_true, Bool.and_eq_true] at h
  obtain ⟨⟨⟨h1, h2⟩, h3⟩, h4⟩ := h
  refine ⟨fun d hd e he => List.all_eq_true.mp (List.all_eq_true.mp h1 d hd) e he, ?_, fun d hd => of_decide_eq_true (List.all_eq_true.mp h3 d hd), of_decide_eq_true h4⟩
  rcases (Bool.or_eq_true _ _).mp h2 with h | h
  · refine .inl fun d hd => ?_
    have := List.all_eq_true.mp h d hd
    unfold isTupC at this
    split at this
    · exact ⟨_, _, rfl⟩
    · cases this
  · refine .inr fun d hd => ?_
    have := List.all_eq_true.mp h d hd
    constructor
    · intro z
      subst z
      cases this
    · intro xs z
      subst z
      cases this
theorem cr_sortD {X : Cx} (hr : Room k X.A) : CallR X (.builtin "sorted") (rSortD X.K) := by
  intro pins s σ H vs us Q I rv h
  obtain ⟨a, ps, rfl, ha, hd, hs, q⟩ := h
  obtain ⟨its, r1, hl, hz⟩ := I.list (show SqL X.K H a (ps.map (·.1)) from .inl (.inl ha))
  rw [Vals.ref1 rv]
  obtain ⟨h1, h2, h3, h4⟩ := sortOk_alike hs
  rw [List.length_map] at h4
  have e1 := each_of_vals r1
  refine sorted_data (enc := fun p : V × PyData => p.2) hl.isList e1 (each_reads I hd e1) h1 h2 (lim_sz h4) (fun p hp => by have := h3 p.2 (List.mem_map_of_mem hp); have := hr.un; omega) fun out hlen eo => ?_
  obtain ⟨ep, he'⟩ := PyProof.Rows.sortedAll_at s.heap its out.toArray
  have ed : dataLe false (fun p : V × PyData => p.2) = fun a b => leD a.2 b.2 := rfl
  rw [ed] at eo
  have hv := vals_of_each eo
  have hlen2 : ((ps.mergeSort fun a b => leD a.2 b.2).map (·.1)).length ≤ sizeLine := by
    rw [List.length_map, List.length_mergeSort]
    exact lim_sz h4
  exact ⟨.ref _, upd H (s.heap.objs.size + 1) (.lst ((ps.mergeSort fun a b => leD a.2 b.2).map (·.1))), I.laid (t' := s.toks) (fun _ _ => PyProof.Rows.sortedAll_old) (Nat.le_succ _) ⟨hlen2, out, ep, hv, he'⟩, rfl, q _ (I.hok.fresh (Nat.le_succ _))⟩
theorem rp_pairs {F : Addr → Prop} {H : Hp} : ∀ {vs : List V} {ds : List PyData}, RpAll F H vs ds → ∃ ps : List (V × PyData), vs = ps.map (·.1) ∧ ds = ps.map (·.2) ∧ ∀ p ∈ ps, Rp F H p.1 p.2
  | _, _, .nil => ⟨[], rfl, rfl, fun _ h => nomatch h⟩
  | _, _, .cons h t => by
    obtain ⟨ps, e1, e2, e3⟩ := rp_pairs t
    refine ⟨(_, _) :: ps, by rw [e1]; rfl, by rw [e2]; rfl, fun p hp => ?_⟩
    rcases List.mem_cons.mp hp with rfl | hp
    · exact h
    · exact e3 p hp
theorem rp_of_pairs {F : Addr → Prop} {H : Hp} : ∀ {ps : List (V × PyData)}, (∀ p ∈ ps, Rp F H p.1 p.2) → RpAll F H (ps.map (·.1)) (ps.map (·.2))
  | [], _ => .nil
  | p :: ps, h => .cons (h p List.mem_cons_self) (rp_of_pairs fun q hq => h q (List.mem_cons_of_mem _ hq))
theorem sort_pairs (ps : List (V × PyData)) : (ps.mergeSort fun a b => leD a.2 b.2).map (·.2) = sortD (ps.map (·.2)) := sort_maps (s := leD) (fun p : V × PyData => p.2) fun _ _ _ _ => rfl
/-! ### isinstance(x, T) -/
inductive Ty where
  | int | bool | tuple | str
def Ty.name : Ty → String
  | .int => "int"
  | .bool => "bool"
  | .tuple => "tuple"
  | .str => "str"
def isT : Ty → PyData → Bool
  | .int, d => d.isInt
  | .bool, d => d.isBool
  | .tuple, d => d.isTuple
  | .str, d => d.isStr
def rIsT (K : PySem.W.Frag) (T : Ty) : List V → Hp → VK → Prop := fun xs H Q => ∃ x d, xs = [x, .ty T.name] ∧ Dp K H x d ∧ Q (.bl (isT T d)) H
theorem cr_isT {X : Cx} (T : Ty) : CallR X (.builtin "isinstance") (rIsT X.K T) := by
  intro pins s σ H vs us Q I rv h
  obtain ⟨x, d, rfl, hd, q⟩ := h
  cases rv with
  | cons r1 t =>
    cases t with
    | cons r2 t =>
      cases t
      cases r2
      obtain ⟨as, r⟩ := Dp.reads I d x _ hd r1
      cases T with
      | int => exact isinstance_int_data r fun tk _ => ⟨.bl _, H, I.kept (t' := tk) fun _ _ z => z, rfl, q⟩
      | bool => exact isinstance_bool_data r fun tk _ => ⟨.bl _, H, I.kept (t' := tk) fun _ _ z => z, rfl, q⟩
      | tuple => exact isinstance_tuple_data r fun tk _ => ⟨.bl _, H, I.kept (t' := tk) fun _ _ z => z, rfl, q⟩
      | str => exact isinstance_str_data r fun tk _ => ⟨.bl _, H, I.kept (t' := tk) fun _ _ z => z, rfl, q⟩
def eIsT (T : Ty) (f : SemE) : SemE := fun δ S => bnd (f δ S) fun x S => match x with
  | .d x => some (.ok (.d (.bool (isT T x))), S)
  | _ => none
theorem se_isT {a : Expr} {f : SemE} {p p2 pos : Pos} {x : Str} (T : Ty) (F : Fm g W k Xf) (hm : g.mg "isinstance" = none) (hm2 : g.mg x = none) (hv2 : bootBuiltins x = some (.type T.name)) (ha : SE g W Xf a f)
    (hg : ∀ i, Gl (Xf i) "isinstance" := by intro _; rfl) (hg2 : ∀ i, Gl (Xf i) x := by intro _; rfl) (hn : x ≠ "__name__" := by decide) (hdb : (x == ("__debug__" : Str)) = false := by decide)
    (he : ∀ i, starEach [a, .Name x p2] (Xf i).env = (false, eval a (Xf i).env) :: starEach [.Name x p2] (Xf i).env := by intro _; rfl) :
    SE g W Xf (.Call (.Name "isinstance" p) [a, .Name x p2] [] pos) (eIsT T f) := by
  obtain ⟨t, p1, q1⟩ := ha
  refine ⟨tCB (rIsT g.wd.K T) (tCons t (tCons (tC (.ty T.name)) tNil)), fun i => ?_, fun G σ H δ S z S' Q s0 e k1 k2 => ?_⟩
  · exact pe_callB (F.K i ▸ cr_isT T) (hg i) (by rw [F.mg i]; exact hm) PyProof.Rows.boot_isinstance (pa_cons (p1 i) (pa_cons (pe_bltn (v := .ty T.name) (hg2 i) (by rw [F.mg i]; exact hm2) hv2 rfl hn hdb) pa_nil) (he i)) (by decide) (by decide) (he i) rfl
  · rcases bnd_some e with ⟨u, S1, ea, e2⟩ | ⟨c, ec, ez⟩
    · refine q1 G σ H δ S _ S1 _ s0 ea (fun x ex v G1 H1 gr1 rv => ?_) (fun c ec => nomatch ec)
      cases ex
      split at e2
      · cases e2
        exact ⟨v, _, rfl, Rp.dp _ _ _ rv, k1 _ rfl _ G1 H1 gr1 (.bl _)⟩
      · cases e2
    · subst ez
      refine q1 G σ H δ S _ S' _ s0 ec (fun xs exs => nomatch exs) (fun c' ec' G2 H2 gr2 => ?_)
      cases ec'
      exact k2 c rfl G2 H2 gr2
/-! ### xs[i], xs[lo:hi] -/
theorem atI_rp {F : Addr → Prop} {H : Hp} {vs : List V} {ds : List PyData} {i : Int} {d : PyData} (h : RpAll F H vs ds) (e : atI ds i = some d) : ∃ v, atI vs i = some v ∧ Rp F H v d := by
  unfold atI at e ⊢
  rw [h.length]
  cases hj : ixN ds.length i with
  | none =>
    rw [hj] at e
    cases e
  | some j =>
    rw [hj] at e
    exact h.getD e
def oIx : U → U → Option U
  | .d (.list xs), .d (.int i) => match atI xs i with
    | some x => some (.d x)
    | none => none
  | .d (.tuple xs), .d (.int i) => match atI xs i with
    | some x => some (.d x)
    | none => none
  | _, _ => none
theorem rdO_ix {wd : Wd} : RdO wd (rIx wd.K) oIx := fun G H S x y u w z Q ok rx ry e k => by
  unfold oIx at e
  split at e
  · split at e
    · rename_i hz
      cases e
      cases ry
      cases rx with
      | lst f h r =>
        obtain ⟨v, e1, r1⟩ := atI_rp r hz
        exact .inl ⟨_, _, _, v, rfl, rfl, .inl (.inl h), e1, k v G H (Grow.refl ok) r1⟩
    · cases e
  · split at e
    · rename_i hz
      cases e
      cases ry
      cases rx with
      | tup h r =>
        obtain ⟨v, e1, r1⟩ := atI_rp r hz
        exact .inr (.inl ⟨_, _, _, v, rfl, rfl, .inl (.inl h), e1, k v G H (Grow.refl ok) r1⟩)
    · cases e
  · cases e
theorem se_ix {a b : Expr} {f h : SemE} {pos : Pos} (F : Fm g W k Xf) (ha : SE g W Xf a f) (hb : SE g W Xf b h) (hs : PlainIx b := by exact fun _ _ => rfl) : SE g W Xf (.Subscript a b pos) (eOp oIx f h) := by
  obtain ⟨t, p1, q1⟩ := ha
  obtain ⟨u, p2, q2⟩ := hb
  exact ⟨tOp (rIx g.wd.K) t u, fun i => pe_ix (F.K i ▸ ix_seq) (p1 i) (p2 i) hs, rd_op rdO_ix q1 q2⟩
/-- -1 and its like -/
def eNeg (f : SemE) : SemE := fun δ S => bnd (f δ S) fun x S => match x with
  | .d (.int i) => some (.ok (.d (.int (-i))), S)
  | _ => none
theorem se_neg {a : Expr} {f : SemE} {pos : Pos} (ha : SE g W Xf a f) : SE g W Xf (.UnaryOp .USub a pos) (eNeg f) := by
  obtain ⟨t, p1, q1⟩ := ha
  refine ⟨_, fun i => pe_un un_neg (p1 i), fun G σ H δ S z S' Q s0 e k1 k2 => ?_⟩
  rcases bnd_some e with ⟨u, S1, ea, e2⟩ | ⟨c, ec, ez⟩
  · refine q1 G σ H δ S _ S1 _ s0 ea (fun x ex v G1 H1 gr1 rv => ?_) (fun c ec => nomatch ec)
    cases ex
    split at e2
    · cases e2
      cases rv
      exact ⟨_, rfl, k1 _ rfl _ G1 H1 gr1 (.int _)⟩
    · cases e2
  · subst ez
    refine q1 G σ H δ S _ S' _ s0 ec (fun xs exs => nomatch exs) (fun c' ec' G2 H2 gr2 => ?_)
    cases ec'
    exact k2 c rfl G2 H2 gr2
/-- a part of a slice -/
abbrev SemO := En → Sto → Rs (Option Int)
def RdPO (wd : Wd) (W : WX) (t : TO) (f : SemO) : Prop := ∀ (G : Gh) (σ : L2.St) (H : Hp) (δ : En) (S : Sto) (r : Except Nat (Option Int)) (S' : Sto) (Q : Option Int → Hp → Prop), St0 wd G σ H δ S → f δ S = some (r, S') →
  (∀ o, r = .ok o → ∀ G' H', Grow wd G H G' H' S' → Q o H') → (∀ c, r = .error c → ∀ G' H', Grow wd G H G' H' S' → W (.ref (wd.ca c)) none σ H') → t σ H Q
def SO (g : Gb) (W : WX) {ι : Type} (Xf : ι → Cx) (e : Option Expr) (f : SemO) : Prop := ∃ t, (∀ i, PO (Xf i) e t) ∧ RdPO g.wd W t f
def oNo : SemO := fun _ S => some (.ok none, S)
def oSome (f : SemE) : SemO := fun δ S => bnd (f δ S) fun x S => match x with
  | .d (.int i) => some (.ok (some i), S)
  | _ => none
theorem so_none : SO g W Xf none oNo := ⟨_, fun _ => po_none, fun G σ H δ S r S' Q s0 e q1 q2 => by
  unfold oNo at e
  cases e
  exact q1 _ rfl G H (Grow.refl s0.ok)⟩
theorem so_some {e : Expr} {f : SemE} (h : SE g W Xf e f) : SO g W Xf (some e) (oSome f) := by
  obtain ⟨t, p1, q1⟩ := h
  refine ⟨_, fun i => po_some (p1 i), fun G σ H δ S z S' Q s0 e k1 k2 => ?_⟩
  rcases bnd_some e with ⟨u, S1, ea, e2⟩ | ⟨c, ec, ez⟩
  · refine q1 G σ H δ S _ S1 _ s0 ea (fun x ex v G1 H1 gr1 rv => ?_) (fun c ec => nomatch ec)
    cases ex
    split at e2
    · cases e2
      cases rv
      exact ⟨_, rfl, k1 _ rfl G1 H1 gr1⟩
    · cases e2
  · subst ez
    refine q1 G σ H δ S _ S' _ s0 ec (fun xs exs => nomatch exs) (fun c' ec' G2 H2 gr2 => ?_)
    cases ec'
    exact k2 c rfl G2 H2 gr2
def cutD (xs : List PyData) (lo hi : Option Int) : List PyData := (xs.drop (HT.sIx xs.length 0 lo)).take (HT.sIx xs.length xs.length hi - HT.sIx xs.length 0 lo)
theorem cut_rp {F : Addr → Prop} {H : Hp} {vs : List V} {ds : List PyData} (h : RpAll F H vs ds) (lo hi : Option Int) : RpAll F H (cutV vs lo hi) (cutD ds lo hi) := by
  unfold cutV cutD
  rw [h.length]
  exact (h.drop _).take _
def eSl (f : SemE) (lo hi : SemO) : SemE := fun δ S => bnd (f δ S) fun x S => bnd (lo δ S) fun l S => bnd (hi δ S) fun u S => match x with
  | .d (.list xs) => some (.ok (.d (.list (cutD xs l u))), S)
  | .d (.tuple xs) => some (.ok (.d (.tuple (cutD xs l u))), S)
  | _ => none
theorem cut_all {xs : List PyData} {lo hi : Option Int} (h : HT.sIx xs.length 0 lo = 0 ∧ HT.sIx xs.length xs.length hi = xs.length) : cutD xs lo hi = xs := by
  unfold cutD
  rw [h.1, h.2, List.drop_zero, Nat.sub_zero, List.take_length]
theorem se_slice {e : Expr} {lo hi : Option Expr} {f : SemE} {l h : SemO} {p2 pos : Pos} (F : Fm g W k Xf) (he : SE g W Xf e f) (hl : SO g W Xf lo l) (hu : SO g W Xf hi h) : SE g W Xf (.Subscript e (.Slice lo hi none p2) pos) (eSl f l h) := by
  obtain ⟨t, p1, q1⟩ := he
  obtain ⟨tl, p2, q2⟩ := hl
  obtain ⟨th, p3, q3⟩ := hu
  refine ⟨tSl (fun x lo hi H Q => rSlL g.wd.K x lo hi H Q ∨ rSlA g.wd.K x lo hi H Q) t tl th, fun i => pe_slice (F.K i ▸ SlR.or sl_list sl_tupA) (p1 i) (p2 i) (p3 i), fun G σ H δ S z S' Q s0 e k1 k2 => ?_⟩
  rcases bnd_some e with ⟨u, S1, ea, e2⟩ | ⟨c, ec, ez⟩
  · refine q1 G σ H δ S _ S1 _ s0 ea (fun x ex v G1 H1 gr1 rv => ?_) (fun c ec => nomatch ec)
    cases ex
    have s1 := s0.grow gr1
    rcases bnd_some e2 with ⟨lo, S2, el, e3⟩ | ⟨c, ec, ez⟩
    · refine q2 G1 σ H1 δ S1 _ S2 _ s1 el (fun x ex G2 H2 gr2 => ?_) (fun c ec => nomatch ec)
      cases ex
      have s2 := s1.grow gr2
      rcases bnd_some e3 with ⟨hi, S3, eh, e4⟩ | ⟨c, ec, ez⟩
      · refine q3 G2 σ H2 δ S2 _ S3 _ s2 eh (fun x ex G3 H3 gr3 => ?_) (fun c ec => nomatch ec)
        cases ex
        have rv3 := gr3.rpU s2.ok (gr2.rpU s1.ok rv)
        have gr := (gr1.trans gr2).trans gr3
        split at e4
        · cases e4
          cases rv3 with
          | lst f h r => exact .inl ⟨_, _, rfl, .inl (.inl h), fun p hp => k1 _ rfl _ G3 _ (gr.trans (Grow.new gr3.ok hp)) (.lst (gr3.ok.fresh p hp) upd_same ((Grow.new gr3.ok hp).rpAll gr3.ok (cut_rp r _ _)))⟩
        · cases e4
          cases rv3 with
          | tup h r =>
            refine .inr ⟨_, _, rfl, .inl (.inl h), fun hz => ?_, fun hz p hp => k1 _ rfl _ G3 _ (gr.trans (Grow.new gr3.ok hp)) (.tup upd_same ((Grow.new gr3.ok hp).rpAll gr3.ok (cut_rp r _ _)))⟩
            refine k1 _ rfl _ G3 H3 gr (.tup h ?_)
            rw [r.length] at hz
            rw [cut_all hz]
            exact r
        · cases e4
      · subst ez
        refine q3 G2 σ H2 δ S2 _ _ _ s2 ec (fun xs exs => nomatch exs) (fun c' ec' G3 H3 gr3 => ?_)
        cases ec'
        exact k2 c rfl G3 H3 ((gr1.trans gr2).trans gr3)
    · subst ez
      refine q2 G1 σ H1 δ S1 _ _ _ s1 ec (fun xs exs => nomatch exs) (fun c' ec' G2 H2 gr2 => ?_)
      cases ec'
      exact k2 c rfl G2 H2 (gr1.trans gr2)
  · subst ez
    refine q1 G σ H δ S _ S' _ s0 ec (fun xs exs => nomatch exs) (fun c' ec' G2 H2 gr2 => ?_)
    cases ec'
    exact k2 c rfl G2 H2 gr2
end
end DL
set_option maxHeartbeats 1000000
/-! The data layer: what is walked, targets, list comprehensions. -/
namespace DL
open PySem L2 PySem.W PySem.SeqAt
/-- what data lean on stays -/
structure Keep (G : Gh) (H : Hp) (G' : Gh) (H' : Hp) : Prop where
  lst : ∀ a xs, G.F a → H a = some (.lst xs) → G'.F a ∧ H' a = some (.lst xs)
  tup : ∀ a xs, H a = some (.tup xs) → H' a = some (.tup xs)
  ta : ∀ a, G.ta = some a → G'.ta = some a
  oa : ∀ (k : Nat) (t : Addr × Addr), G.oa[k]? = some t → ∃ l, G'.oa[k]? = some (t.1, l)
  dic : ∀ a kvs, G.F a → H a = some (.dK kvs) → G'.F a ∧ H' a = some (.dK kvs)
section
variable {wd : Wd} {G G1 G2 G' : Gh} {H H1 H2 H' : Hp} {S S1 S2 S' : Sto}
theorem Keep.refl : Keep G H G H := ⟨fun _ _ f h => ⟨f, h⟩, fun _ _ h => h, fun _ h => h, fun _ t h => ⟨t.2, h⟩, fun _ _ f h => ⟨f, h⟩⟩
theorem Keep.trans (a : Keep G H G1 H1) (b : Keep G1 H1 G2 H2) : Keep G H G2 H2 :=
  ⟨fun x xs f h => b.lst x xs (a.lst x xs f h).1 (a.lst x xs f h).2, fun x xs h => b.tup x xs (a.tup x xs h), fun x h => b.ta x (a.ta x h), fun k t h => by
    obtain ⟨l, e⟩ := a.oa k t h
    exact b.oa k (t.1, l) e, fun x kvs f h => b.dic x kvs (a.dic x kvs f h).1 (a.dic x kvs f h).2⟩
theorem Grow.kp (gr : Grow wd G H G' H' S') (g : GOk wd G H S) : Keep G H G' H' := ⟨fun _ _ f h => gr.lst g f h, fun _ _ h => gr.tup g h, gr.ta, gr.oa, fun a _ f h => ⟨gr.keep a _ h f, gr.same a _ h fun m => g.mF a m f⟩⟩
theorem Keep.rp (k : Keep G H G' H') {v : V} {d : PyData} (h : Rp G.F H v d) : Rp G'.F H' v d := Rp.move (fun _ _ f r => k.lst _ _ f r) (fun _ _ r => k.tup _ _ r) d v h
theorem Keep.rpAll (k : Keep G H G' H') {vs : List V} {ds : List PyData} (h : RpAll G.F H vs ds) : RpAll G'.F H' vs ds := RpAll.move (fun _ _ f r => k.lst _ _ f r) (fun _ _ r => k.tup _ _ r) ds vs h
theorem Keep.rpU (k : Keep G H G' H') {v : V} {u : U} (h : RpU wd G H v u) : RpU wd G' H' v u := by
  cases u with
  | d x => exact k.rp h
  | sc => exact h
  | tw =>
    obtain ⟨a, e, rfl⟩ := h
    exact ⟨a, k.ta a e, rfl⟩
  | o j =>
    obtain ⟨t, e, rfl⟩ := h
    obtain ⟨l, e'⟩ := k.oa j t e
    exact ⟨_, e', rfl⟩
  | x c => exact h
  | m kvs =>
    obtain ⟨a, rfl, f, e⟩ := h
    exact ⟨a, rfl, (k.dic a _ f e).1, (k.dic a _ f e).2⟩
end
/-! ### what is walked -/
def Wk (wd : Wd) (J : It) (G : Gh) (H : Hp) (items : List PyData) : Prop := ∀ (G1 : Gh) (H1 : Hp) (S1 : Sto), Keep G H G1 H1 → GOk wd G1 H1 S1 →
  (∀ i, items.length ≤ i → J.stop i H1) ∧ ∀ i d, items[i]? = some d → J.go i H1 ∧ ∀ x H2, J.yld i H1 x H2 → Grow wd G1 H1 G1 H2 S1 ∧ Rp G1.F H2 x d
theorem Wk.keep {wd : Wd} {J : It} {G G' : Gh} {H H' : Hp} {items : List PyData} (h : Wk wd J G H items) (k : Keep G H G' H') : Wk wd J G' H' items := fun G1 H1 S1 k1 => h G1 H1 S1 (k.trans k1)
abbrev SemI := En → Sto → Rs (List PyData)
def RdI (wd : Wd) (W : WX) (wi : TI) (f : SemI) : Prop := ∀ (G : Gh) (σ : L2.St) (H : Hp) (δ : En) (S : Sto) (r : Except Nat (List PyData)) (S' : Sto) (R : It → Hp → Prop), St0 wd G σ H δ S → f δ S = some (r, S') →
  (∀ items, r = .ok items → ∀ J G' H', Grow wd G H G' H' S' → Wk wd J G' H' items → R J H') → (∀ c, r = .error c → ∀ G' H', Grow wd G H G' H' S' → W (.ref (wd.ca c)) none σ H') → wi σ H R
def SI (g : Gb) (W : WX) {ι : Type} (Xf : ι → Cx) (tg iter : Expr) (f : SemI) : Prop := ∃ wi, (∀ i, PI (Xf i) tg iter wi) ∧ RdI g.wd W wi f
/-- a list, a tuple, a text's signs -/
def iSeq (K : PySem.W.Frag) (tl : TE) : TI := fun σ H R => tl σ H fun x H1 => (∃ a, x = .ref a ∧ (∃ xs, SqL K H1 a xs) ∧ R (Itl K a) H1) ∨ (∃ a, x = .ref a ∧ (∃ xs, SqT K H1 a xs) ∧ R (Itt K a) H1) ∨ ∃ z, x = .str z ∧ R (Its z) H1
theorem pi_seq {X : Cx} {tg l : Expr} {tl : TE} (hl : PE X l tl) : PI X tg l (iSeq X.K tl) := by
  refine ⟨fun pins s σ H R I h => ?_⟩
  refine thn (hl.run pins s σ H _ I h) fun v s1 ⟨x, H1, I1, r1, q1⟩ => ?_
  rcases q1 with ⟨a, e, ⟨xs, hq⟩, q⟩ | ⟨a, e, ⟨xs, hq⟩, q⟩ | ⟨z, e, q⟩
  · subst e
    cases r1
    obtain ⟨its, rv, p, hz⟩ := I1.list hq
    refine wpAny_pyIter_list p.isList ?_
    refine ⟨s1.heap.objs.size, [s1.heap.objs.size], _, _, H1, rfl, I1.kept (t' := s1.toks) fun b o e => Heap.get?_push_of_some _ e, turn_list a _, ⟨_, Heap.get?_push_size _ rfl, rfl, rfl⟩, fun b hb => ?_, q⟩
    have e : b = s1.heap.objs.size := by simpa using hb
    subst e
    exact I1.fpOk (Nat.le_refl _) (I1.hok.fresh (Nat.le_refl _))
  · subst e
    cases r1
    obtain ⟨its, rv, p, hz⟩ := I1.tuple hq
    refine wpAny_pyIter_tuple (show s1.heap.IsTuple a its.toArray from p) ?_
    refine ⟨s1.heap.objs.size, [s1.heap.objs.size], _, _, H1, rfl, I1.kept (t' := s1.toks) fun b o e => Heap.get?_push_of_some _ e, turn_tuple a _, ⟨_, Heap.get?_push_size _ rfl, rfl, rfl⟩, fun b hb => ?_, q⟩
    have e : b = s1.heap.objs.size := by simpa using hb
    subst e
    exact I1.fpOk (Nat.le_refl _) (I1.hok.fresh (Nat.le_refl _))
  · subst e
    obtain ⟨t, rfl⟩ := r1
    cases ha : z.cps.all (· < 128)
    · exact wpAny_pyIter_wide ha (pi_one (tk := s1.toks) I1 _ (turn_str _ z t "str_iterator" (.inr rfl)) ⟨_, Heap.get?_push_size _ rfl, rfl, rfl⟩ q)
    · exact wpAny_pyIter_ascii ha (pi_one (tk := s1.toks) I1 _ (turn_str _ z t "str_ascii_iterator" (.inl rfl)) ⟨_, Heap.get?_push_size _ rfl, rfl, rfl⟩ q)
theorem wk_list {wd : Wd} {G : Gh} {H : Hp} {a : Addr} {vs : List V} {ds : List PyData} {K : PySem.W.Frag} (f : G.F a) (h : H a = some (.lst vs)) (r : RpAll G.F H vs ds) : Wk wd (Itl K a) G H ds := fun G1 H1 S1 kp ok => by
  have h1 := (kp.lst a vs f h).2
  have r1 := kp.rpAll r
  refine ⟨fun i hi => ⟨vs, .inl (.inl h1), by rw [r.length]; exact hi⟩, fun i d hd => ?_⟩
  obtain ⟨v, hv, rv⟩ := r1.getD hd
  refine ⟨⟨vs, v, .inl (.inl h1), hv⟩, fun x H2 y => ?_⟩
  obtain ⟨e, y⟩ := y
  subst e
  have := y vs (.inl (.inl h1))
  rw [hv] at this
  cases this
  exact ⟨Grow.refl ok, rv⟩
theorem wk_tup {wd : Wd} {G : Gh} {H : Hp} {a : Addr} {vs : List V} {ds : List PyData} {K : PySem.W.Frag} (h : H a = some (.tup vs)) (r : RpAll G.F H vs ds) : Wk wd (Itt K a) G H ds := fun G1 H1 S1 kp ok => by
  have h1 := kp.tup a vs h
  have r1 := kp.rpAll r
  refine ⟨fun i hi => ⟨vs, .inl (.inl h1), by rw [r.length]; exact hi⟩, fun i d hd => ?_⟩
  obtain ⟨v, hv, rv⟩ := r1.getD hd
  refine ⟨⟨vs, v, .inl (.inl h1), hv⟩, fun x H2 y => ?_⟩
  obtain ⟨e, y⟩ := y
  subst e
  have := y vs (.inl (.inl h1))
  rw [hv] at this
  cases this
  exact ⟨Grow.refl ok, rv⟩
def signs (z : Str) : List PyData := z.cps.toList.map fun c => .str ⟨#[c]⟩
theorem wk_str {wd : Wd} {G : Gh} {H : Hp} {z : Str} : Wk wd (Its z) G H (signs z) := fun G1 H1 S1 kp ok => by
  refine ⟨fun i hi => ?_, fun i d hd => ?_⟩
  · unfold signs at hi
    rw [List.length_map, Array.length_toList] at hi
    exact hi
  · unfold signs at hd
    rw [List.getElem?_map] at hd
    cases hc : z.cps.toList[i]? with
    | none => rw [hc] at hd; cases hd
    | some c =>
      rw [hc] at hd
      cases hd
      have hlt : i < z.cps.size := by
        have := (List.getElem?_eq_some_iff.mp hc).1
        rwa [Array.length_toList] at this
      refine ⟨hlt, fun x H2 y => ?_⟩
      obtain ⟨e, c', e1, e2⟩ := y
      subst e
      subst e2
      rw [Array.getElem?_toList] at hc
      rw [hc] at e1
      cases e1
      exact ⟨Grow.refl ok, .str _⟩
def itSeq (f : SemE) : SemI := fun δ S => bnd (f δ S) fun x S => match x with
  | .d (.list xs) => some (.ok xs, S)
  | .d (.tuple xs) => some (.ok xs, S)
  | .d (.str z) => some (.ok (signs z), S)
  | _ => none
section
variable {g : Gb} {W : WX} {ι : Type} {Xf : ι → Cx} {k : Nat}
theorem si_seq {tg l : Expr} {f : SemE} (F : Fm g W k Xf) (h : SE g W Xf l f) : SI g W Xf tg l (itSeq f) := by
  obtain ⟨t, p1, q1⟩ := h
  refine ⟨iSeq g.wd.K t, fun i => F.K i ▸ pi_seq (p1 i), fun G σ H δ S z S' R s0 e k1 k2 => ?_⟩
  rcases bnd_some e with ⟨u, S1, ea, e2⟩ | ⟨c, ec, ez⟩
  · refine q1 G σ H δ S _ S1 _ s0 ea (fun x ex v G1 H1 gr1 rv => ?_) (fun c ec => nomatch ec)
    cases ex
    split at e2
    · cases e2
      cases rv with
      | lst f h r => exact .inl ⟨_, rfl, ⟨_, .inl (.inl h)⟩, k1 _ rfl _ G1 H1 gr1 (wk_list f h r)⟩
    · cases e2
      cases rv with
      | tup h r => exact .inr (.inl ⟨_, rfl, ⟨_, .inl (.inl h)⟩, k1 _ rfl _ G1 H1 gr1 (wk_tup h r)⟩)
    · cases e2
      cases rv
      exact .inr (.inr ⟨_, rfl, k1 _ rfl _ G1 H1 gr1 wk_str⟩)
    · cases e2
  · subst ez
    refine q1 G σ H δ S _ S' _ s0 ec (fun xs exs => nomatch exs) (fun c' ec' G2 H2 gr2 => ?_)
    cases ec'
    exact k2 c rfl G2 H2 gr2
/-- lo, lo + 1, .., n of them -/
def intsD (lo : Int) (n : Nat) : List PyData := (List.range n).map fun (i : Nat) => PyData.int (lo + (i : Int))
theorem ints_get {lo : Int} {n i : Nat} {d : PyData} (h : (intsD lo n)[i]? = some d) : i < n ∧ d = .int (lo + (i : Int)) := by
  unfold intsD at h
  rw [List.getElem?_map] at h
  by_cases hi : i < n
  · rw [List.getElem?_range hi] at h
    cases h
    exact ⟨hi, rfl⟩
  · rw [List.getElem?_eq_none (by rw [List.length_range]; omega)] at h
    cases h
theorem ints_len (lo : Int) (n : Nat) : (intsD lo n).length = n := by
  unfold intsD
  rw [List.length_map, List.length_range]
theorem wk_range {wd : Wd} {G : Gh} {H : Hp} {lo : Int} {n : Nat} : Wk wd (Itr lo n) G H (intsD lo n) := fun G1 H1 S1 kp ok => by
  refine ⟨fun i hi => by rw [ints_len] at hi; exact hi, fun i d hd => ?_⟩
  obtain ⟨hi, rfl⟩ := ints_get hd
  refine ⟨hi, fun x H2 y => ?_⟩
  obtain ⟨e, e2⟩ := y
  subst e
  subst e2
  exact ⟨Grow.refl ok, .int _⟩
def itR1 (a : SemA) : SemI := fun δ S => bnd (a δ S) fun us S => match us with
  | [.d (.int n)] => if n.natAbs < 2 ^ 40 then some (.ok (intsD 0 n.toNat), S) else none
  | _ => none
def itR2 (a : SemA) : SemI := fun δ S => bnd (a δ S) fun us S => match us with
  | [.d (.int m), .d (.int n)] => if m.natAbs < 2 ^ 40 ∧ n.natAbs < 2 ^ 40 then some (.ok (intsD m (n - m).toNat), S) else none
  | _ => none
theorem si_range1 {tg a : Expr} {f : SemA} {p pos : Pos} (F : Fm g W k Xf) (hm : g.mg "range" = none) (h : SA g W Xf [a] f) (hg : ∀ i, Gl (Xf i) "range" := by intro _; rfl) (hs : ∀ i, starEach [a] (Xf i).env = [(false, eval a (Xf i).env)] := by intro _; rfl) :
    SI g W Xf tg (.Call (.Name "range" p) [a] [] pos) (itR1 f) := by
  obtain ⟨t, p1, q1⟩ := h
  refine ⟨iRng1 t, fun i => pi_range1 (hg i) (by rw [F.mg i]; exact hm) (p1 i) (hs i), fun G σ H δ S z S' R s0 e k1 k2 => ?_⟩
  rcases bnd_some e with ⟨u, S1, ea, e2⟩ | ⟨c, ec, ez⟩
  · refine q1 G σ H δ S _ S1 _ s0 ea (fun x ex v G1 H1 gr1 rv => ?_) (fun c ec => nomatch ec)
    cases ex
    split at e2
    · split at e2
      · rename_i hn
        cases e2
        obtain ⟨v, rfl, h⟩ := rpUs1 rv
        cases h
        exact ⟨_, rfl, by omega, by omega, k1 _ rfl _ G1 H1 gr1 wk_range⟩
      · cases e2
    · cases e2
  · subst ez
    refine q1 G σ H δ S _ S' _ s0 ec (fun xs exs => nomatch exs) (fun c' ec' G2 H2 gr2 => ?_)
    cases ec'
    exact k2 c rfl G2 H2 gr2
theorem si_range2 {tg a b : Expr} {f : SemA} {p pos : Pos} (F : Fm g W k Xf) (hm : g.mg "range" = none) (h : SA g W Xf [a, b] f) (hg : ∀ i, Gl (Xf i) "range" := by intro _; rfl)
    (hs : ∀ i, starEach [a, b] (Xf i).env = [(false, eval a (Xf i).env), (false, eval b (Xf i).env)] := by intro _; rfl) (hs2 : ∀ i, starEach [b] (Xf i).env = [(false, eval b (Xf i).env)] := by intro _; rfl) :
    SI g W Xf tg (.Call (.Name "range" p) [a, b] [] pos) (itR2 f) := by
  obtain ⟨t, p1, q1⟩ := h
  refine ⟨iRng2 t, fun i => pi_range2 (hg i) (by rw [F.mg i]; exact hm) (p1 i) (hs i) (hs2 i), fun G σ H δ S z S' R s0 e k1 k2 => ?_⟩
  rcases bnd_some e with ⟨u, S1, ea, e2⟩ | ⟨c, ec, ez⟩
  · refine q1 G σ H δ S _ S1 _ s0 ea (fun x ex v G1 H1 gr1 rv => ?_) (fun c ec => nomatch ec)
    cases ex
    split at e2
    · split at e2
      · rename_i hn
        cases e2
        obtain ⟨v, w, rfl, h1, h2⟩ := rpUs2 rv
        cases h1
        cases h2
        exact ⟨_, _, rfl, by omega, k1 _ rfl _ G1 H1 gr1 wk_range⟩
      · cases e2
    · cases e2
  · subst ez
    refine q1 G σ H δ S _ S' _ s0 ec (fun xs exs => nomatch exs) (fun c' ec' G2 H2 gr2 => ?_)
    cases ec'
    exact k2 c rfl G2 H2 gr2
/-- zip of two lists, of two tuples -/
def pairD (xs ys : List PyData) : List PyData := (xs.zip ys).map fun p => .tuple [p.1, p.2]
theorem pair_get {xs ys : List PyData} {i : Nat} {d : PyData} (h : (pairD xs ys)[i]? = some d) : ∃ x y, xs[i]? = some x ∧ ys[i]? = some y ∧ d = .tuple [x, y] := by
  unfold pairD at h
  rw [List.getElem?_map] at h
  cases hz : (xs.zip ys)[i]? with
  | none => rw [hz] at h; cases h
  | some p =>
    rw [hz] at h
    cases h
    obtain ⟨h1, h2⟩ := List.getElem?_zip_eq_some.mp hz
    exact ⟨_, _, h1, h2, rfl⟩
theorem pair_len (xs ys : List PyData) : (pairD xs ys).length = min xs.length ys.length := by
  unfold pairD
  rw [List.length_map, List.length_zip]
theorem wk_zipL {wd : Wd} {G : Gh} {H : Hp} {a b : Addr} {vs ws : List V} {ds es : List PyData} {K : PySem.W.Frag} (f : G.F a) (h : H a = some (.lst vs)) (r : RpAll G.F H vs ds) (f' : G.F b) (h' : H b = some (.lst ws)) (r' : RpAll G.F H ws es) : Wk wd (Itz K a b) G H (pairD ds es) := fun G1 H1 S1 kp ok => by
  have h1 := (kp.lst a vs f h).2
  have r1 := kp.rpAll r
  have h2 := (kp.lst b ws f' h').2
  have r2 := kp.rpAll r'
  refine ⟨fun i hi => ⟨vs, ws, .inl (.inl h1), .inl (.inl h2), ?_⟩, fun i d hd => ?_⟩
  · rw [pair_len] at hi
    rw [r.length, r'.length]
    omega
  · obtain ⟨x, y, e1, e2, rfl⟩ := pair_get hd
    obtain ⟨v, hv, rv⟩ := r1.getD e1
    obtain ⟨w, hw, rw'⟩ := r2.getD e2
    refine ⟨⟨vs, ws, v, w, .inl (.inl h1), .inl (.inl h2), hv, hw⟩, fun x H2 y => ?_⟩
    obtain ⟨T, x1, y1, rfl, hT, rfl, g1, g2⟩ := y
    have e3 := g1 vs (.inl (.inl h1))
    have e4 := g2 ws (.inl (.inl h2))
    rw [hv] at e3
    rw [hw] at e4
    cases e3
    cases e4
    exact ⟨Grow.new ok hT, .tup upd_same ((Grow.new ok hT).rpAll ok (.cons rv (.cons rw' .nil)))⟩
theorem wk_zipT {wd : Wd} {G : Gh} {H : Hp} {a b : Addr} {vs ws : List V} {ds es : List PyData} {K : PySem.W.Frag} (h : H a = some (.tup vs)) (r : RpAll G.F H vs ds) (h' : H b = some (.tup ws)) (r' : RpAll G.F H ws es) : Wk wd (RZ.ItzT K a b) G H (pairD ds es) := fun G1 H1 S1 kp ok => by
  have h1 := kp.tup a vs h
  have r1 := kp.rpAll r
  have h2 := kp.tup b ws h'
  have r2 := kp.rpAll r'
  refine ⟨fun i hi => ⟨vs, ws, .inl (.inl h1), .inl (.inl h2), ?_⟩, fun i d hd => ?_⟩
  · rw [pair_len] at hi
    rw [r.length, r'.length]
    omega
  · obtain ⟨x, y, e1, e2, rfl⟩ := pair_get hd
    obtain ⟨v, hv, rv⟩ := r1.getD e1
    obtain ⟨w, hw, rw'⟩ := r2.getD e2
    refine ⟨⟨vs, ws, v, w, .inl (.inl h1), .inl (.inl h2), hv, hw⟩, fun x H2 y => ?_⟩
    obtain ⟨T, x1, y1, rfl, hT, rfl, g1, g2⟩ := y
    have e3 := g1 vs (.inl (.inl h1))
    have e4 := g2 ws (.inl (.inl h2))
    rw [hv] at e3
    rw [hw] at e4
    cases e3
    cases e4
    exact ⟨Grow.new ok hT, .tup upd_same ((Grow.new ok hT).rpAll ok (.cons rv (.cons rw' .nil)))⟩
def itZip (a : SemA) : SemI := fun δ S => bnd (a δ S) fun us S => match us with
  | [.d (.list xs), .d (.list ys)] => some (.ok (pairD xs ys), S)
  | [.d (.tuple xs), .d (.tuple ys)] => some (.ok (pairD xs ys), S)
  | _ => none
theorem si_zip {a b : Expr} {elts : List Expr} {kk : Nat} {f : SemA} {p pos tpos : Pos} (F : Fm g W k Xf) (hm : g.mg "zip" = none) (h : SA g W Xf [a, b] f) (hg : ∀ i, Gl (Xf i) "zip" := by intro _; rfl)
    (hs : ∀ i, starEach [a, b] (Xf i).env = (false, eval a (Xf i).env) :: starEach [b] (Xf i).env := by intro _; rfl) (hpl : ∀ i, (backTo pos (starEach [b] (Xf i).env)).any (·.1) = false := by intro _; rfl) :
    SI g W Xf (.Tuple elts kk tpos) (.Call (.Name "zip" p) [a, b] [] pos) (itZip f) := by
  obtain ⟨t, p1, q1⟩ := h
  refine ⟨RZ.iZipA g.wd.K t, fun i => F.K i ▸ RZ.pi_zipA (hg i) (by rw [F.mg i]; exact hm) (p1 i) (hs i) (hpl i), fun G σ H δ S z S' R s0 e k1 k2 => ?_⟩
  rcases bnd_some e with ⟨u, S1, ea, e2⟩ | ⟨c, ec, ez⟩
  · refine q1 G σ H δ S _ S1 _ s0 ea (fun x ex v G1 H1 gr1 rv => ?_) (fun c ec => nomatch ec)
    cases ex
    split at e2
    · cases e2
      obtain ⟨v, w, rfl, h1, h2⟩ := rpUs2 rv
      cases h1 with
      | lst f1 h1 r1 =>
        cases h2 with
        | lst f2 h2 r2 => exact ⟨_, _, _, _, rfl, .inl ⟨.inl (.inl h1), .inl (.inl h2), k1 _ rfl _ G1 H1 gr1 (wk_zipL f1 h1 r1 f2 h2 r2)⟩⟩
    · cases e2
      obtain ⟨v, w, rfl, h1, h2⟩ := rpUs2 rv
      cases h1 with
      | tup h1 r1 =>
        cases h2 with
        | tup h2 r2 => exact ⟨_, _, _, _, rfl, .inr ⟨.inl (.inl h1), .inl (.inl h2), k1 _ rfl _ G1 H1 gr1 (wk_zipT h1 r1 h2 r2)⟩⟩
    · cases e2
  · subst ez
    refine q1 G σ H δ S _ S' _ s0 ec (fun xs exs => nomatch exs) (fun c' ec' G2 H2 gr2 => ?_)
    cases ec'
    exact k2 c rfl G2 H2 gr2
/-- enumerate of a list -/
def enumD (xs : List PyData) : List PyData := pairD (intsD 0 xs.length) xs
def itEnum (a : SemA) : SemI := fun δ S => bnd (a δ S) fun us S => match us with
  | [.d (.list xs)] => some (.ok (enumD xs), S)
  | _ => none
end
/-! ### targets -/
inductive Tg where
  | one (i : Nat)
  | tup (is : List Nat)
def Tg.split : Tg → PyData → Option (List (Nat × PyData))
  | .one i, d => some [(i, d)]
  | .tup is, .tuple ds => if is.length = ds.length then some (is.zip ds) else none
  | _, _ => none
def Tg.slots : Tg → List Nat
  | .one i => [i]
  | .tup is => is
def setD (δ : En) : List (Nat × PyData) → En
  | [] => δ
  | (i, d) :: r => setD (δ.set i (some (.u (.d d)))) r
def setV (σ : L2.St) : List (Nat × V) → L2.St
  | [] => σ
  | (i, v) :: r => setV (σ.set i (some v)) r
def RpP (F : Addr → Prop) (H : Hp) : List (Nat × V) → List (Nat × PyData) → Prop := Paired fun w p => w.1 = p.1 ∧ Rp F H w.2 p.2
def TgOk (t : TG) (tg : Tg) : Prop := ∀ (F : Addr → Prop) (H : Hp) (σ : L2.St) (x : V) (d : PyData) (ps : List (Nat × PyData)) (Q : L2.St → Hp → Prop), Rp F H x d → tg.split d = some ps → (∀ ws, RpP F H ws ps → Q (setV σ ws) H) → t x σ H Q
def SG (g : Gb) {ι : Type} (Xf : ι → Cx) (e : Expr) (tg : Tg) : Prop := ∃ t, (∀ i, PG (Xf i) e t) ∧ TgOk t tg
def gNames : List Nat → TGs
  | [] => gNil
  | i :: r => gCons (gName i) (gNames r)
theorem gNames_ok {F : Addr → Prop} {H : Hp} : ∀ (is : List Nat) (σ : L2.St) (vs : List V) (ds : List PyData) (Q : L2.St → Hp → Prop), RpAll F H vs ds → is.length = ds.length → (∀ ws, RpP F H ws (is.zip ds) → Q (setV σ ws) H) → gNames is vs σ H Q
  | [], σ, vs, ds, Q, r, hl, k => by
    cases r with
    | nil => exact ⟨rfl, k [] .nil⟩
    | cons _ _ => cases hl
  | i :: is, σ, vs, ds, Q, r, hl, k => by
    cases r with
    | nil => cases hl
    | cons h t => exact ⟨_, _, rfl, gNames_ok is _ _ _ Q t (by simpa using hl) fun ws hw => k ((i, _) :: ws) (.cons ⟨rfl, h⟩ hw)⟩
section
variable {g : Gb} {W : WX} {ι : Type} {Xf : ι → Cx} {k : Nat}
theorem sg_name (i : Nat) {x : Str} {pos : Pos} (F : Fm g W k Xf) (hi : ∀ j, (Xf j).N[i]? = some x := by intro _; rfl) (hx : ∀ j, Loc (Xf j).env.scope x := by first | exact fun _ => Or.inl rfl | exact fun _ => Or.inr rfl)
    (hf : ∀ j, (Xf j).fn x = true ∨ (Xf j).env.scope.names.lookup x = some .local := by first | exact fun _ => Or.inl rfl | exact fun _ => Or.inr rfl) : SG g Xf (.Name x pos) (.one i) :=
  ⟨gName i, fun j => pg_name (F.nd j) (hi j) (hx j) (hf j), fun Fp H σ v d ps Q r e q => by
    cases e
    exact q [(i, v)] (.cons ⟨rfl, r⟩ .nil)⟩
def SGs (g : Gb) {ι : Type} (Xf : ι → Cx) (es : List Expr) (is : List Nat) : Prop := ∀ i, PGs (Xf i) es (gNames is)
theorem sgs_nil : SGs g Xf [] [] := fun _ => pgs_nil
theorem sgs_cons (i : Nat) {x : Str} {pos : Pos} {es : List Expr} {is : List Nat} (F : Fm g W k Xf) (h : SGs g Xf es is) (hi : ∀ j, (Xf j).N[i]? = some x := by intro _; rfl) (hx : ∀ j, Loc (Xf j).env.scope x := by first | exact fun _ => Or.inl rfl | exact fun _ => Or.inr rfl)
    (hf : ∀ j, (Xf j).fn x = true ∨ (Xf j).env.scope.names.lookup x = some .local := by first | exact fun _ => Or.inl rfl | exact fun _ => Or.inr rfl)
    (hs : ∀ j, (assignEach (.Name x pos :: es) (Xf j).env).map (·.2) = assign (.Name x pos) (Xf j).env :: (assignEach es (Xf j).env).map (·.2) := by intro _; rfl) : SGs g Xf (.Name x pos :: es) (i :: is) :=
  fun j => pgs_cons (pg_name (F.nd j) (hi j) (hx j) (hf j)) (h j) (hs j)
theorem sg_tup {es : List Expr} {is : List Nat} {kk : Nat} {pos : Pos} (F : Fm g W k Xf) (h : SGs g Xf es is) (hn : ∀ j, (assignEach es (Xf j).env).length = is.length := by intro _; rfl)
    (hst : ∀ j, (assignEach es (Xf j).env).findIdx? (·.1) = none := by intro _; rfl) : SG g Xf (.Tuple es kk pos) (.tup is) :=
  ⟨gTup g.wd.K is.length (gNames is), fun j => F.K j ▸ pg_tup (F.calm j) (h j) (hn j) (hst j), fun Fp H σ v d ps Q r e q => by
    cases d with
    | tuple ds =>
      have e : (if is.length = ds.length then some (is.zip ds) else none) = some ps := e
      split at e
      · rename_i hl
        cases e
        cases r with
        | tup h r => exact ⟨_, _, rfl, .inl (.inl h), by rw [r.length]; exact hl.symm, gNames_ok is σ _ _ Q r hl q⟩
      · cases e
    | none => cases e
    | bool _ => cases e
    | int _ => cases e
    | str _ => cases e
    | list _ => cases e
    | dict _ => cases e⟩
end
/-! ### tests of a comprehension -/
def SQ (g : Gb) (W : WX) {ι : Type} (Xf : ι → Cx) (ifs : List Expr) (f : SemT) : Prop := ∃ t, (∀ i, PTs (Xf i) ifs t) ∧ RdT g.wd W t f
def tTrue : SemT := fun _ S => some (.ok true, S)
section
variable {g : Gb} {W : WX} {ι : Type} {Xf : ι → Cx} {k : Nat}
theorem sq_nil : SQ g W Xf [] tTrue := ⟨tYes, fun _ => pts_nil, fun G σ H δ S r S' Q s0 e q1 q2 => by
  unfold tTrue at e
  cases e
  exact q1 _ rfl G H (Grow.refl s0.ok)⟩
theorem sq_one {c : Expr} {f : SemT} (h : ST g W Xf c f) : SQ g W Xf [c] f := by
  obtain ⟨t, p1, q1⟩ := h
  exact ⟨t, fun i => pts_one (p1 i), q1⟩
end
/-! ### the family of a comprehension's block -/
abbrev W0 : WX := fun _ _ _ _ => False
def BlkI (ι : Type) : Type := ι × Shared × Hp × Addr × List (Str × Addr) × List Addr
def blkF {ι : Type} (Xf : ι → Cx) (scope : Scope) (q : BlkI ι) : Cx := (Xf q.1).blk q.2.1 q.2.2.1 scope (compEnvC scope q.2.2.2.2.1 q.2.2.2.1 (Xf q.1).env) q.2.2.2.2.2
theorem Fm.blk {g : Gb} {W : WX} {ι : Type} {Xf : ι → Cx} {k : Nat} (F : Fm g W k Xf) (scope : Scope) : Fm g W0 k (blkF Xf scope) :=
  ⟨fun q => F.prog q.1, fun q => F.w q.1, fun q => F.K q.1, fun q => F.mg q.1, fun q => F.base q.1, fun q => F.calm q.1, fun q => F.room q.1, fun _ => takes0, fun q => F.nd q.1, fun _ => PassesOwn.never⟩
def wipeE (δ : En) : List Nat → En
  | [] => δ
  | v :: vs => (wipeE δ vs).set v none
theorem wipeE_some {δ : En} {i : Nat} {x : Cell} : ∀ {vs : List Nat}, (wipeE δ vs)[i]? = some (some x) → δ[i]? = some (some x) ∧ i ∉ vs
  | [], h => ⟨h, by simp⟩
  | v :: vs, h => by
    unfold wipeE at h
    by_cases hi : v = i
    · subst hi
      by_cases hv : v < (wipeE δ vs).length
      · rw [List.getElem?_set_self hv] at h; cases h
      · rw [List.getElem?_eq_none (by simpa using hv)] at h; cases h
    · rw [List.getElem?_set_ne hi] at h
      obtain ⟨h1, h2⟩ := wipeE_some h
      exact ⟨h1, by simp only [List.mem_cons, not_or]; exact ⟨fun e => hi e.symm, h2⟩⟩
theorem wipeE_length (δ : En) : ∀ vs : List Nat, (wipeE δ vs).length = δ.length
  | [] => rfl
  | v :: vs => by unfold wipeE; rw [List.length_set, wipeE_length δ vs]
theorem St0.wipe {wd : Wd} {G : Gh} {σ : L2.St} {H : Hp} {δ : En} {S : Sto} (s : St0 wd G σ H δ S) (vs : List Nat) : St0 wd G (wipe σ vs) H (wipeE δ vs) S :=
  ⟨s.ok, fun i x e => by
    obtain ⟨h1, h2⟩ := wipeE_some e
    obtain ⟨v, e1, r⟩ := s.at_ i x h1
    exact ⟨v, by rw [wipe_out h2]; exact e1, r⟩, by rw [wipeE_length, wipe_length]; exact s.len⟩
theorem St0.set {wd : Wd} {G : Gh} {σ : L2.St} {H : Hp} {δ : En} {S : Sto} (s : St0 wd G σ H δ S) {i : Nat} {v : V} {u : U} (r : RpU wd G H v u) : St0 wd G (σ.set i (some v)) H (δ.set i (some (.u u))) S :=
  ⟨s.ok, fun j x e => by
    by_cases hj : i = j
    · subst hj
      by_cases hi : i < δ.length
      · rw [List.getElem?_set_self hi] at e
        cases e
        exact ⟨v, List.getElem?_set_self (by have := s.len; omega), r⟩
      · rw [List.getElem?_eq_none (by simpa using hi)] at e
        cases e
    · rw [List.getElem?_set_ne hj] at e
      obtain ⟨w, e1, r1⟩ := s.at_ j x e
      exact ⟨w, by rw [List.getElem?_set_ne hj]; exact e1, r1⟩, by simpa using s.len⟩
theorem St0.setAll {wd : Wd} {G : Gh} {H : Hp} {S : Sto} : ∀ {ws : List (Nat × V)} {ps : List (Nat × PyData)} {σ : L2.St} {δ : En}, St0 wd G σ H δ S → RpP G.F H ws ps → St0 wd G (setV σ ws) H (setD δ ps) S
  | _, _, _, _, s, .nil => s
  | (i, v) :: ws, (j, d) :: ps, σ, δ, s, .cons h t => by
    obtain ⟨e, r⟩ := h
    have e : i = j := e
    subst e
    exact St0.setAll (σ := σ.set i (some v)) (δ := δ.set i (some (.u (.d d)))) (s.set (i := i) (v := v) (u := .d d) r) t
theorem wipe_set {σ : L2.St} {i : Nat} {v : Option V} : ∀ {vs : List Nat}, i ∈ vs → wipe (σ.set i v) vs = wipe σ vs
  | [], h => by simp at h
  | w :: vs, h => by
    unfold wipe
    by_cases hm : i ∈ vs
    · rw [wipe_set hm]
    · have e : i = w := by
        rcases List.mem_cons.mp h with e | e
        · exact e
        · exact absurd e hm
      subst e
      have : ∀ (l : List Nat), i ∉ l → wipe (σ.set i v) l = (wipe σ l).set i v := by
        intro l
        induction l with
        | nil => intro _; rfl
        | cons a l ih =>
          intro hn
          unfold wipe
          rw [ih (fun z => hn (List.mem_cons_of_mem _ z)), List.set_comm _ _ (fun e => hn (by rw [e]; exact List.mem_cons_self))]
      rw [this vs hm, List.set_set]
theorem wipe_setV {vs : List Nat} : ∀ {ws : List (Nat × V)} {σ : L2.St}, (∀ w ∈ ws, w.1 ∈ vs) → wipe (setV σ ws) vs = wipe σ vs
  | [], _, _ => rfl
  | (i, v) :: ws, σ, h => by
    unfold setV
    rw [wipe_setV fun w hw => h w (List.mem_cons_of_mem _ hw), wipe_set (h (i, v) List.mem_cons_self)]
theorem wipe_wipe {vs : List Nat} {σ : L2.St} : wipe (wipe σ vs) vs = wipe σ vs := by
  apply List.ext_getElem?
  intro i
  by_cases h : i ∈ vs
  · have key : ∀ (l : List Nat) (τ : L2.St), i ∈ l → (wipe τ l)[i]? = if i < τ.length then some none else none := by
      intro l
      induction l with
      | nil => intro τ h; simp at h
      | cons a l ih =>
        intro τ h
        unfold wipe
        by_cases ha : a = i
        · subst ha
          by_cases hl : a < τ.length
          · rw [if_pos hl, List.getElem?_set_self (by rw [wipe_length]; exact hl)]
          · rw [if_neg hl, List.getElem?_eq_none (by rw [List.length_set, wipe_length]; omega)]
        · rw [List.getElem?_set_ne ha]
          exact ih τ (by
            rcases List.mem_cons.mp h with e | e
            · exact absurd e.symm ha
            · exact e)
    rw [key vs _ h, key vs _ h, wipe_length]
  · rw [wipe_out h, wipe_out h]
/-! ### the comprehension -/
def lcGo (tg : Tg) (test : SemT) (fe : SemE) (δ : En) : List PyData → Sto → Option (List PyData × Sto)
  | [], S => some ([], S)
  | x :: r, S => match tg.split x with
    | none => none
    | some ps => match test (setD δ ps) S with
      | some (.ok true, S1) => (match fe (setD δ ps) S1 with
        | some (.ok (.d y), S2) => (match lcGo tg test fe δ r S2 with
          | some (ys, S3) => some (y :: ys, S3)
          | none => none)
        | _ => none)
      | some (.ok false, S1) => lcGo tg test fe δ r S1
      | _ => none
def eLc (it : SemI) (vs : List Nat) (tg : Tg) (test : SemT) (fe : SemE) : SemE := fun δ S => bnd (it δ S) fun items S => if items.length ≤ LIM then (match lcGo tg test fe (wipeE δ vs) items S with
  | some (ys, S') => some (.ok (.d (.list ys)), S')
  | none => none) else none
/-- the list at D is held apart: what the data hold is G's; D grows -/
structure Apart (wd : Wd) (G1 : Gh) (H1 : Hp) (D : Addr) (G : Gh) (H : Hp) (S : Sto) (vs : List V) (acc : List PyData) : Prop where
  new : H1 D = none
  kp : Keep G1 H1 G H
  gr : Grow wd G1 H1 { G with F := fun a => G.F a ∨ a = D } H S
  ok : GOk wd G H S
  nf : ¬ G.F D
  nm : ¬ G.M D
  at_ : H D = some (.lst vs)
  ra : RpAll G.F H vs acc
section
variable {wd : Wd} {G1 G Gb : Gh} {H1 H Hb : Hp} {S S1 Sb : Sto} {D : Addr} {vs : List V} {acc : List PyData}
theorem Apart.start (ok1 : GOk wd G1 H1 S1) (hD : H1 D = none) : Apart wd G1 H1 D { G1 with F := fun a => G1.F a ∧ a ≠ D } (L2.upd H1 D (.lst [])) S1 [] [] := by
  have gn := Grow.new (o := .lst []) ok1 hD
  refine ⟨hD, ⟨fun a xs f h => ⟨⟨f, ne_of_none h hD⟩, by rw [upd_ne (ne_of_none h hD)]; exact h⟩, fun a xs h => by rw [upd_ne (ne_of_none h hD)]; exact h, fun _ h => h, fun _ t h => ⟨t.2, h⟩, fun a ks f h => ⟨⟨f, ne_of_none h hD⟩, by rw [upd_ne (ne_of_none h hD)]; exact h⟩⟩, ?_, ?_, fun f => f.2 rfl, ?_, upd_same, .nil⟩
  · have ee : ({ G1 with F := fun a => (G1.F a ∧ a ≠ D) ∨ a = D } : Gh) = G1 := by
      obtain ⟨F1, t1, o1⟩ := G1
      show Gh.mk _ t1 o1 = Gh.mk F1 t1 o1
      congr 1
      funext a
      refine propext ⟨fun h => ?_, fun f => ?_⟩
      · rcases h with h | h
        · exact h.1
        · rw [h]; exact ok1.fresh D hD
      · by_cases h : a = D
        · exact .inr h
        · exact .inl ⟨f, h⟩
    show Grow wd G1 H1 { G1 with F := fun a => (G1.F a ∧ a ≠ D) ∨ a = D } _ _
    rw [ee]
    exact gn
  · exact gn.ok.withF _ (fun p hp => ⟨gn.ok.fresh p hp, fun z => by rw [z, upd_same] at hp; cases hp⟩) (fun a m f => gn.ok.mF a m f.1)
  · intro m
    have m : G1.M D := m
    rcases ok1.mut m with ⟨xs, e⟩ | ⟨C, dx, fs, e⟩ <;> (rw [hD] at e; cases e)
theorem Apart.grow (A : Apart wd G1 H1 D G H S vs acc) (gr : Grow wd G H Gb Hb Sb) : Apart wd G1 H1 D Gb Hb Sb vs acc := by
  have n1 : ¬ Gb.F D := fun f => A.nf (gr.sub D f)
  have n2 : ¬ Gb.M D := fun m => by
    rcases gr.mem D m with z | z
    · exact A.nm z
    · rw [A.at_] at z; cases z
  refine ⟨A.new, A.kp.trans (gr.kp A.ok), ?_, gr.ok, n1, n2, gr.same D _ A.at_ A.nm, (gr.kp A.ok).rpAll A.ra⟩
  refine A.gr.trans ⟨gr.ok.withF _ (fun p hp => .inl (gr.ok.fresh p hp)) (fun a m f => ?_), fun a f => ?_, fun a o h f => ?_, gr.same, gr.mem, gr.there, gr.ta, gr.oa⟩
  · rcases f with f | f
    · exact gr.ok.mF a m f
    · subst f
      exact n2 m
  · rcases f with f | f
    · exact .inl (gr.sub a f)
    · exact .inr f
  · rcases f with f | f
    · exact .inl (gr.keep a o h f)
    · exact .inr f
theorem Apart.app (A : Apart wd G1 H1 D G H S vs acc) {v : V} {y : PyData} (r : Rp G.F H v y) : Apart wd G1 H1 D G (L2.upd H D (.lst (vs ++ [v]))) S (vs ++ [v]) (acc ++ [y]) := by
  have ne : ∀ b o, H b = some o → b ≠ D → L2.upd H D (.lst (vs ++ [v])) b = some o := fun b o e n => by rw [upd_ne n]; exact e
  have nT : ∀ b xs, H b = some (.tup xs) → L2.upd H D (.lst (vs ++ [v])) b = some (.tup xs) := fun b xs e => ne b _ e (fun z => by rw [z, A.at_] at e; cases e)
  have kp2 : Keep G H G (L2.upd H D (.lst (vs ++ [v]))) := ⟨fun a xs f h => ⟨f, ne a _ h (fun z => A.nf (z ▸ f))⟩, nT, fun _ h => h, fun _ t h => ⟨t.2, h⟩, fun a kvs f h => ⟨f, ne a _ h (fun z => A.nf (z ▸ f))⟩⟩
  have ok2 := A.ok.updL (vs' := vs ++ [v]) A.at_ A.nm
  refine ⟨A.new, A.kp.trans kp2, ⟨ok2.withF _ (fun p hp => .inl (ok2.fresh p hp)) (fun a m f => ?_), A.gr.sub, A.gr.keep, fun a o h m => ne a o (A.gr.same a o h m) (ne_of_none h A.new), A.gr.mem, fun a o h => ?_, A.gr.ta, A.gr.oa⟩, ok2, A.nf, A.nm, upd_same, (kp2.rpAll A.ra).append (.cons (kp2.rp r) .nil)⟩
  · rcases f with f | f
    · exact ok2.mF a m f
    · subst f
      exact A.nm m
  · obtain ⟨o', e⟩ := A.gr.there a o h
    exact ⟨o', ne a o' e (ne_of_none h A.new)⟩
end
section
variable {g : Gb} {W : WX} {ι : Type} {Xf : ι → Cx} {k : Nat}
theorem split_slots {tg : Tg} {d : PyData} {ps : List (Nat × PyData)} (h : tg.split d = some ps) : ∀ p ∈ ps, p.1 ∈ tg.slots := by
  intro p hp
  unfold Tg.split at h
  split at h
  · cases h
    simp at hp
    rw [hp]
    simp [Tg.slots]
  · split at h
    · cases h
      exact (List.of_mem_zip hp).1
    · cases h
  · cases h
theorem rpP_slots {F : Addr → Prop} {H : Hp} : ∀ {ws : List (Nat × V)} {ps : List (Nat × PyData)}, RpP F H ws ps → ∀ w ∈ ws, ∃ p ∈ ps, w.1 = p.1 := by
  intro ws ps h
  induction h with
  | nil => intro w hw; cases hw
  | cons h t ih =>
    intro w hw
    rcases List.mem_cons.mp hw with rfl | hw
    · exact ⟨_, List.mem_cons_self, h.1⟩
    · obtain ⟨p, hp, e⟩ := ih w hw
      exact ⟨p, List.mem_cons_of_mem _ hp, e⟩
theorem rd_lc {wd : Wd} {wi : TI} {gt : TG} {tt : TT} {te : TE} {vs : List Nat} {it : SemI} {tg : Tg} {test : SemT} {fe : SemE} (hi : RdI wd W wi it) (hg : TgOk gt tg) (ht : RdT wd W0 tt test) (he : RdE wd W0 te fe) (hv : ∀ i ∈ tg.slots, i ∈ vs) :
    RdF wd W (tLc wi gt tt te vs) (eLc it vs tg test fe) := fun G σ H δ S z S' Q s0 e k1 k2 => by
  rcases bnd_some e with ⟨items, S1, ea, e2⟩ | ⟨c, ec, ez⟩
  · refine hi G σ H δ S _ S1 _ s0 ea (fun x ex J G1 H1 gr1 wk => ?_) (fun c ec => nomatch ec)
    cases ex
    split at e2
    · rename_i hlim
      split at e2
      · rename_i ys Sf hys
        cases e2
        intro D hD
        refine ⟨fun i m Hc => ∃ (Gc : Gh) (Sc : Sto) (acc rest : List PyData) (ws : List V), m = items.length - i ∧ i ≤ items.length ∧ Apart wd G1 H1 D Gc Hc Sc ws acc ∧ acc.length ≤ i ∧ lcGo tg test fe (wipeE δ vs) (items.drop i) Sc = some (rest, S') ∧ acc ++ rest = ys,
          ⟨items.length, _, S1, [], ys, [], by simp, Nat.zero_le _, Apart.start gr1.ok hD, Nat.le_refl _, by simpa using hys, rfl⟩, ?_⟩
        rintro i m Hc ⟨Gc, Sc, acc, rest, ws', rfl, hi', A, hal, hgo, hsum⟩
        have wkc := wk Gc Hc Sc A.kp A.ok
        by_cases hlt : i < items.length
        · obtain ⟨d, hd⟩ : ∃ d, items[i]? = some d := ⟨_, List.getElem?_eq_getElem hlt⟩
          have hdrop : items.drop i = d :: items.drop (i + 1) := by
            rw [List.drop_eq_getElem_cons hlt]
            rw [List.getElem?_eq_getElem hlt] at hd
            cases hd
            rfl
          obtain ⟨hgo1, hyl⟩ := wkc.2 i d hd
          refine .inr ⟨hgo1, fun Hn => ∃ (Gc : Gh) (Sc : Sto) (acc rest : List PyData) (ws : List V), Apart wd G1 H1 D Gc Hn Sc ws acc ∧ acc.length ≤ i + 1 ∧ lcGo tg test fe (wipeE δ vs) (items.drop (i + 1)) Sc = some (rest, S') ∧ acc ++ rest = ys,
            fun Hn ⟨Gc, Sc, acc, rest, ws, h1, h2, h3, h4⟩ => ⟨items.length - (i + 1), by omega, Gc, Sc, acc, rest, ws, rfl, hlt, h1, h2, h3, h4⟩, fun x H2 y => ?_⟩
          obtain ⟨gr2, rx⟩ := hyl x H2 y
          rw [hdrop] at hgo
          unfold lcGo at hgo
          split at hgo
          · cases hgo
          · rename_i ps hps
            refine hg Gc.F H2 (wipe σ vs) x d ps _ rx hps fun ws hws => ?_
            have hslots : ∀ w ∈ ws, w.1 ∈ vs := fun w hw => by
              obtain ⟨p, hp, e⟩ := rpP_slots hws w hw
              rw [e]
              exact hv _ (split_slots hps p hp)
            refine ⟨by rw [wipe_setV hslots, wipe_wipe], ?_⟩
            have A2 := A.grow gr2
            have sb : St0 wd Gc (wipe σ vs) H2 (wipeE δ vs) Sc := by
              have s1 := (s0.grow gr1).wipe vs
              refine ⟨gr2.ok, fun j u e => ?_, s1.len⟩
              obtain ⟨v, e1, r1⟩ := s1.at_ j u e
              exact ⟨v, e1, A2.kp.rpU r1⟩
            have s2 := sb.setAll hws
            split at hgo
            · rename_i S1' htest
              refine ht Gc _ H2 _ Sc _ S1' _ s2 htest (fun b eb G3 H3 gr3 => ?_) (fun c ec => nomatch ec)
              cases eb
              rw [if_pos rfl]
              split at hgo
              · rename_i y S2' hfe
                split at hgo
                · rename_i ys2 S3' hrest
                  cases hgo
                  refine he G3 _ H3 _ S1' _ S2' _ (s2.grow gr3) hfe (fun u eu v G4 H4 gr4 rv => ?_) (fun c ec => nomatch ec)
                  cases eu
                  have A4 := (A2.grow gr3).grow gr4
                  have hlen' := A4.ra.length
                  refine ⟨_, A4.at_, ?_, G4, S2', acc ++ [y], ys2, _, A4.app rv, ?_, hrest, ?_⟩
                  · rw [hlen']
                    have : acc.length < LIM := by omega
                    exact Nat.lt_of_lt_of_le this (by decide)
                  · rw [List.length_append]
                    show acc.length + 1 ≤ i + 1
                    omega
                  · rw [← hsum]
                    simp
                · cases hgo
              · cases hgo
            · rename_i S1' htest
              refine ht Gc _ H2 _ Sc _ S1' _ s2 htest (fun b eb G3 H3 gr3 => ?_) (fun c ec => nomatch ec)
              cases eb
              rw [if_neg Bool.false_ne_true]
              exact ⟨G3, S1', acc, rest, ws', A2.grow gr3, by omega, hgo, hsum⟩
            · cases hgo
        · have hi2 : i = items.length := by omega
          subst hi2
          rw [List.drop_length] at hgo
          cases hgo
          rw [List.append_nil] at hsum
          subst hsum
          refine .inl ⟨wkc.1 _ (Nat.le_refl _), k1 acc rfl D ws' { Gc with F := fun a => Gc.F a ∨ a = D } Hc (gr1.none_of hD) (Or.inr rfl) (gr1.trans A.gr) A.at_ ?_⟩
          refine RpAll.move (fun a xs f r => ⟨⟨.inl f, fun z => A.nf (z ▸ f)⟩, r⟩) (fun a xs r => r) _ _ A.ra
      · cases e2
    · cases e2
  · subst ez
    refine hi G σ H δ S _ S' _ s0 ec (fun xs exs => nomatch exs) (fun c' ec' G2 H2 gr2 => ?_)
    cases ec'
    exact k2 c rfl G2 H2 gr2
theorem sf_lc {elt tg iter : Expr} {ifs : List Expr} {scope : Scope} {pos : Pos} {it : SemI} {tgs : Tg} {test : SemT} {fe : SemE} (own : List (Str × Nat)) (N : List Str) (F : Fm g W k Xf) (hi : SI g W Xf tg iter it)
    (hg : SG g (blkF Xf scope) tg tgs) (ht : SQ g W0 (blkF Xf scope) ifs test) (he : SE g W0 (blkF Xf scope) elt fe) (hb : ∀ i, blkC N (Xf i).env.scope scope own = true := by intro _; kernel_rfl) (hN : ∀ i, (Xf i).N = N := by intro _; rfl)
    (hv : (tgs.slots.all fun i => (own.map (·.2)).contains i) = true := by decide) (hs : ∀ i x, foldedSetIterable iter (Xf i).env x = pure x := by intro _ _; rfl) :
    SF g W Xf (.ListComp elt [⟨tg, iter, ifs, 0⟩] scope pos) (eLc it (own.map (·.2)) tgs test fe) := by
  obtain ⟨wi, i1, i2⟩ := hi
  obtain ⟨gt, g1, g2⟩ := hg
  obtain ⟨tt, t1, t2⟩ := ht
  obtain ⟨te, e1, e2⟩ := he
  refine ⟨tLc wi gt tt te (own.map (·.2)), fun i => pe_lc (F.calm i) (F.nd i) (i1 i) ?_ (fun s H C cl fp => g1 (i, s, H, C, cl, fp)) (fun s H C cl fp => t1 (i, s, H, C, cl, fp)) (fun s H C cl fp => e1 (i, s, H, C, cl, fp)) (hs i), rd_lc i2 g2 t2 e2 fun i hi => ?_⟩
  · rw [hN i]
    exact blkOk_by (hb i)
  · exact List.contains_iff_mem.mp (List.all_eq_true.mp hv i hi)
end
end DL
set_option maxHeartbeats 1000000
/-! The data layer: statements. -/
namespace DL
open PySem L2 PySem.W PySem.SeqAt
inductive Fl where
  | nx
  | rt (u : U)
  | ex (c : Nat)
abbrev SemS := En → Sto → Option (Fl × En × Sto)
/-- the frame's own dicts -/
def DicJ (H0 : Hp) (G : Gh) (σ : L2.St) (H : Hp) (δ : En) : Prop :=
  (∀ (i : Nat) (kvs : List (Int × PyData)), δ[i]? = some (some (.dic kvs)) → ∃ a, σ[i]? = some (some (.ref a)) ∧ H a = some (.dK (encD kvs)) ∧ ¬ G.F a ∧ ¬ G.M a ∧ H0 a = none) ∧
  ∀ (i j : Nat) (k1 k2 : List (Int × PyData)) (a : Addr), δ[i]? = some (some (.dic k1)) → δ[j]? = some (some (.dic k2)) → σ[i]? = some (some (.ref a)) → σ[j]? = some (some (.ref a)) → i = j
theorem getset {α : Type} {l : List α} {i j : Nat} {x y : α} (h : (l.set i x)[j]? = some y) : (i = j ∧ i < l.length ∧ x = y) ∨ (i ≠ j ∧ l[j]? = some y) := by
  by_cases e : i = j
  · subst e
    by_cases hl : i < l.length
    · rw [List.getElem?_set_self hl] at h
      cases h
      exact .inl ⟨rfl, hl, rfl⟩
    · rw [List.getElem?_eq_none (by simpa using hl)] at h
      cases h
  · rw [List.getElem?_set_ne e] at h
    exact .inr ⟨e, h⟩
theorem DicJ.to {H0 H H' : Hp} {G G' : Gh} {σ : L2.St} {δ : En} (d : DicJ H0 G σ H δ) (h : ∀ a kvs, H a = some (.dK kvs) → ¬ G.F a → ¬ G.M a → H0 a = none → (∃ (i : Nat) (ks : List (Int × PyData)), δ[i]? = some (some (Cell.dic ks)) ∧ σ[i]? = some (some (V.ref a))) → H' a = some (.dK kvs) ∧ ¬ G'.F a ∧ ¬ G'.M a) : DicJ H0 G' σ H' δ :=
  ⟨fun i kvs e => by
    obtain ⟨a, e1, e2, nf, nm, n0⟩ := d.1 i kvs e
    obtain ⟨e2', nf', nm'⟩ := h a _ e2 nf nm n0 ⟨i, kvs, e, e1⟩
    exact ⟨a, e1, e2', nf', nm', n0⟩, d.2⟩
theorem DicJ.set {H0 H : Hp} {G : Gh} {σ : L2.St} {δ : En} (d : DicJ H0 G σ H δ) {i : Nat} {v : Option V} {c : Cell} (hc : ∀ ks, c ≠ .dic ks) : DicJ H0 G (σ.set i v) H (δ.set i (some c)) := by
  refine ⟨fun j kvs e => ?_, fun j l k1 k2 a e1 e2 e3 e4 => ?_⟩
  · rcases getset e with ⟨rfl, hl, e⟩ | ⟨hn, e⟩
    · cases e
      exact absurd rfl (hc _)
    · obtain ⟨a, e1, rest⟩ := d.1 j kvs e
      exact ⟨a, by rw [List.getElem?_set_ne hn]; exact e1, rest⟩
  · rcases getset e1 with ⟨rfl, hl, e⟩ | ⟨hn, e1⟩
    · cases e
      exact absurd rfl (hc _)
    · rcases getset e2 with ⟨rfl, hl, e⟩ | ⟨hn2, e2⟩
      · cases e
        exact absurd rfl (hc _)
      · rw [List.getElem?_set_ne hn] at e3
        rw [List.getElem?_set_ne hn2] at e4
        exact d.2 j l k1 k2 a e1 e2 e3 e4
/-- .. another cell where no dict was -/
theorem DicJ.setC {H0 H : Hp} {G : Gh} {σ : L2.St} {δ : En} (d : DicJ H0 G σ H δ) {i : Nat} {c : Cell} (hc : ∀ ks, c ≠ .dic ks) : DicJ H0 G σ H (δ.set i (some c)) := by
  refine ⟨fun j kvs e => ?_, fun j l k1 k2 a e1 e2 e3 e4 => ?_⟩
  · rcases getset e with ⟨rfl, hl, e⟩ | ⟨hn, e⟩
    · cases e
      exact absurd rfl (hc _)
    · exact d.1 j kvs e
  · rcases getset e1 with ⟨rfl, hl, e⟩ | ⟨hn, e1⟩
    · cases e
      exact absurd rfl (hc _)
    · rcases getset e2 with ⟨rfl, hl, e⟩ | ⟨hn2, e2⟩
      · cases e
        exact absurd rfl (hc _)
      · exact d.2 j l k1 k2 a e1 e2 e3 e4
theorem DicJ.grow {wd : Wd} {H0 H H' : Hp} {G G' : Gh} {σ : L2.St} {δ : En} {S' : Sto} (d : DicJ H0 G σ H δ) (gr : Grow wd G H G' H' S') : DicJ H0 G' σ H' δ := d.to fun a kvs e nf nm n0 _ => ⟨gr.same a _ e nm, fun f => nf (gr.sub a f), fun m => (gr.mem a m).elim nm (fun z => by rw [e] at z; cases z)⟩
/-- a def's body at work: G0, H0 at its entry -/
structure StJ (wd : Wd) (G0 : Gh) (H0 : Hp) (G : Gh) (σ : L2.St) (H : Hp) (δ : En) (S : Sto) : Prop where
  fr0 : ∀ p, H0 p = none → G0.F p
  fr : Grow wd G0 H0 G H S
  at_ : ∀ (i : Nat) (x : U), δ[i]? = some (some (.u x)) → ∃ v, σ[i]? = some (some v) ∧ RpU wd G H v x
  own : ∀ (i : Nat) (xs : List PyData), δ[i]? = some (some (.own xs)) → ∃ a vs, σ[i]? = some (some (.ref a)) ∧ H a = some (.lst vs) ∧ RpAll G.F H vs xs ∧ ¬ G.F a ∧ ¬ G.M a ∧ H0 a = none
  ap : ∀ (i j : Nat) (xs ys : List PyData) (a : Addr), δ[i]? = some (some (.own xs)) → δ[j]? = some (some (.own ys)) → σ[i]? = some (some (.ref a)) → σ[j]? = some (some (.ref a)) → i = j
  len : δ.length ≤ σ.length
  dic : DicJ H0 G σ H δ
section
variable {wd : Wd} {G0 G G' : Gh} {σ : L2.St} {H0 H H' : Hp} {δ : En} {S S' : Sto}
theorem StJ.ok (s : StJ wd G0 H0 G σ H δ S) : GOk wd G H S := s.fr.ok
theorem StJ.st0 (s : StJ wd G0 H0 G σ H δ S) : St0 wd G σ H δ S := ⟨s.ok, s.at_, s.len⟩
theorem StJ.grow (s : StJ wd G0 H0 G σ H δ S) (gr : Grow wd G H G' H' S') : StJ wd G0 H0 G' σ H' δ S' := by
  refine ⟨s.fr0, s.fr.trans gr, fun i x e => ?_, fun i xs e => ?_, s.ap, s.len, s.dic.grow gr⟩
  · obtain ⟨v, e1, r⟩ := s.at_ i x e
    exact ⟨v, e1, gr.rpU s.ok r⟩
  · obtain ⟨a, vs, e1, e2, r, nf, nm, n0⟩ := s.own i xs e
    refine ⟨a, vs, e1, gr.same a _ e2 nm, gr.rpAll s.ok r, fun f => nf (gr.sub a f), fun m => ?_, n0⟩
    rcases gr.mem a m with z | z
    · exact nm z
    · rw [e2] at z; cases z
/-! ### own lists read -/
def borC : Cell → Cell
  | .own xs => .u (.d (.list xs))
  | c => c
def bor (δ : En) : En := δ.map (Option.map borC)
def OwnA (σ : L2.St) (δ : En) (a : Addr) : Prop := ∃ (i : Nat) (xs : List PyData), δ[i]? = some (some (.own xs)) ∧ σ[i]? = some (some (.ref a))
def Gh.bor (G : Gh) (σ : L2.St) (δ : En) : Gh := { G with F := fun a => G.F a ∨ OwnA σ δ a }
def Gh.unbor (G : Gh) (σ : L2.St) (δ : En) : Gh := { G with F := fun a => G.F a ∧ ¬ OwnA σ δ a }
theorem StJ.ownA (s : StJ wd G0 H0 G σ H δ S) {a : Addr} (h : OwnA σ δ a) : (∃ vs, H a = some (.lst vs)) ∧ ¬ G.F a ∧ ¬ G.M a ∧ H0 a = none := by
  obtain ⟨i, xs, e1, e2⟩ := h
  obtain ⟨b, vs, f1, f2, _, f3, f4, f5⟩ := s.own i xs e1
  rw [e2] at f1
  cases f1
  exact ⟨⟨vs, f2⟩, f3, f4, f5⟩
theorem StJ.bor (s : StJ wd G0 H0 G σ H δ S) : St0 wd (G.bor σ δ) σ H (bor δ) S := by
  refine ⟨s.ok.withF _ (fun p hp => .inl (s.ok.fresh p hp)) (fun a m f => ?_), fun i x e => ?_, by unfold DL.bor; rw [List.length_map]; exact s.len⟩
  · rcases f with f | f
    · exact s.ok.mF a m f
    · exact (s.ownA f).2.2.1 m
  · unfold DL.bor at e
    rw [List.getElem?_map] at e
    cases hc : δ[i]? with
    | none => rw [hc] at e; cases e
    | some o =>
      rw [hc] at e
      cases o with
      | none => cases e
      | some c =>
        cases c with
        | u y =>
          cases e
          obtain ⟨v, e1, r⟩ := s.at_ i _ hc
          refine ⟨v, e1, ?_⟩
          cases x with
          | d z => exact Rp.move (fun a xs f r => ⟨.inl f, r⟩) (fun a xs r => r) _ _ r
          | sc => exact r
          | tw => exact r
          | o k => exact r
          | x c => exact r
          | m kvs =>
            obtain ⟨a, h1, h2, h3⟩ := r
            exact ⟨a, h1, .inl h2, h3⟩
        | dic kvs => cases e
        | own xs =>
          cases e
          obtain ⟨a, vs, e1, e2, r, nf, nm, n0⟩ := s.own i xs hc
          exact ⟨.ref a, e1, .lst (.inr ⟨i, xs, hc, e1⟩) e2 (RpAll.move (fun a xs f r => ⟨.inl f, r⟩) (fun a xs r => r) _ _ r)⟩
/-- behind a reading of own lists -/
theorem StJ.unbor (s : StJ wd G0 H0 G σ H δ S) {Gb : Gh} (gr : Grow wd (G.bor σ δ) H Gb H' S') : StJ wd G0 H0 (Gb.unbor σ δ) σ H' δ S' ∧ Keep G H (Gb.unbor σ δ) H' ∧ Grow wd G0 H0 Gb H' S' := by
  have okb := s.bor.ok
  have kp : Keep G H (Gb.unbor σ δ) H' := by
    refine ⟨fun a xs f h => ?_, fun a xs h => gr.tup okb h, gr.ta, gr.oa, fun a kvs f h => ⟨⟨gr.keep a _ h (.inl f), fun o => (s.ownA o).2.1 f⟩, gr.same a _ h fun m => okb.mF a m (.inl f)⟩⟩
    have := gr.lst okb (a := a) (.inl f) h
    exact ⟨⟨this.1, fun o => (s.ownA o).2.1 f⟩, this.2⟩
  have okU : GOk wd (Gb.unbor σ δ) H' S' := gr.ok.withF _ (fun p hp => ⟨gr.ok.fresh p hp, fun o => by
    obtain ⟨⟨vs, e⟩, _⟩ := s.ownA o
    obtain ⟨o', e'⟩ := gr.there p _ e
    rw [hp] at e'; cases e'⟩) (fun a m f => gr.ok.mF a m f.1)
  have same : ∀ a o, H0 a = some o → ¬ G0.M a → H' a = some o := fun a o h m => gr.same a o (s.fr.same a o h m) fun m1 => by
    rcases s.fr.mem a m1 with z | z
    · exact m z
    · rw [h] at z; cases z
  have mem : ∀ a, Gb.M a → G0.M a ∨ H0 a = none := fun a m => by
    rcases gr.mem a m with z | z
    · exact s.fr.mem a z
    · exact .inr (s.fr.none_of z)
  have there : ∀ a o, H0 a = some o → ∃ o', H' a = some o' := fun a o h => by
    obtain ⟨o1, e1⟩ := s.fr.there a o h
    exact gr.there a o1 e1
  have oa : ∀ (k : Nat) (t : Addr × Addr), G0.oa[k]? = some t → ∃ l, Gb.oa[k]? = some (t.1, l) := fun k t h => by
    obtain ⟨l, e⟩ := s.fr.oa k t h
    exact gr.oa k (t.1, l) e
  have keepB : ∀ a o, H0 a = some o → G0.F a → Gb.F a := fun a o h f => by
    obtain ⟨o1, e1⟩ := s.fr.there a o h
    exact gr.keep a o1 e1 (.inl (s.fr.keep a o h f))
  refine ⟨⟨s.fr0, ⟨okU, fun a f => ?_, fun a o h f => ⟨keepB a o h f, fun z => ?_⟩, same, mem, there, fun a h => gr.ta a (s.fr.ta a h), oa⟩, fun i x e => ?_, fun i xs e => ?_, s.ap, s.len, s.dic.to fun a kvs e nf nm n0 _ => ⟨gr.same a _ e nm, fun f => (gr.sub a f.1).elim nf (fun o => by
    obtain ⟨⟨vs, e'⟩, _⟩ := s.ownA o
    rw [e] at e'; cases e'), fun m => (gr.mem a m).elim nm (fun z => by rw [e] at z; cases z)⟩⟩, kp, ⟨gr.ok, fun a f => ?_, keepB, same, mem, there, fun a h => gr.ta a (s.fr.ta a h), oa⟩⟩
  · rcases gr.sub a f.1 with z | z
    · exact s.fr.sub a z
    · exact absurd z f.2
  · have := (s.ownA z).2.2.2
    rw [h] at this; cases this
  · obtain ⟨v, e1, r⟩ := s.at_ i x e
    exact ⟨v, e1, kp.rpU r⟩
  · obtain ⟨a, vs, e1, e2, r, nf, nm, n0⟩ := s.own i xs e
    refine ⟨a, vs, e1, gr.same a _ e2 nm, kp.rpAll r, fun f => f.2 ⟨i, xs, e, e1⟩, fun m => ?_, n0⟩
    rcases gr.mem a m with z | z
    · exact nm z
    · rw [e2] at z; cases z
  · rcases gr.sub a f with z | z
    · exact s.fr.sub a z
    · exact s.fr0 a (s.ownA z).2.2.2
def noLstU : U → Bool
  | .d x => noLst x
  | .m _ => false
  | _ => true
theorem rpU_flat {Gb : Gh} {v : V} {u : U} (h : noLstU u = true) (r : RpU wd Gb H v u) : RpU wd (Gb.unbor σ δ) H v u := by
  cases u with
  | d x => exact Rp.flat (fun a xs r => r) _ _ h r
  | sc => exact r
  | tw => exact r
  | o k => exact r
  | x c => exact r
  | m kvs => cases h
end
section
variable (wd : Wd) (W : WX)
def RdS (t : TS) (f : SemS) : Prop := ∀ (G0 : Gh) (H0 : Hp) (G : Gh) (σ : L2.St) (H : Hp) (δ : En) (S : Sto) (fl : Fl) (δ' : En) (S' : Sto) (D : Ends), StJ wd G0 H0 G σ H δ S → f δ S = some (fl, δ', S') →
  (fl = .nx → ∀ G' σ' H', σ'.length = σ.length → StJ wd G0 H0 G' σ' H' δ' S' → Keep G H G' H' → D.nx σ' H') →
  (∀ u, fl = .rt u → ∀ v G' H', Grow wd G0 H0 G' H' S' → RpU wd G' H' v u → D.rt v H') →
  (∀ c, fl = .ex c → ∀ σ' G' H', σ'.length = σ.length → Grow wd G0 H0 G' H' S' → W (.ref (wd.ca c)) none σ' H') → t D σ H
end
section
variable (g : Gb) (W : WX) {ι : Type} (Xf : ι → Cx)
def SS (st : Stmt) (f : SemS) : Prop := ∃ t, (∀ i, PS (Xf i) st t) ∧ RdS g.wd W t f
def SSs (st : List Stmt) (f : SemS) : Prop := ∃ t, (∀ i, PSs (Xf i) st t) ∧ RdS g.wd W t f
end
section
variable {g : Gb} {W : WX} {ι : Type} {Xf : ι → Cx} {k : Nat}
/-- an expression evaluated as it stands -/
theorem evN {wd : Wd} {t : TE} {f : SemE} (h : RdE wd W t f) {G0 G : Gh} {σ : L2.St} {H0 H : Hp} {δ : En} {S S' : Sto} {r : Except Nat U} {Q : VK} (s : StJ wd G0 H0 G σ H δ S) (e : f δ S = some (r, S'))
    (k1 : ∀ u, r = .ok u → ∀ v G' H', StJ wd G0 H0 G' σ H' δ S' → Keep G H G' H' → RpU wd G' H' v u → Q v H') (k2 : ∀ c, r = .error c → ∀ G' H', Grow wd G0 H0 G' H' S' → W (.ref (wd.ca c)) none σ H') : t σ H Q :=
  h G σ H δ S r S' Q s.st0 e (fun u eu v G' H' gr rv => k1 u eu v G' H' (s.grow gr) (gr.kp s.ok) rv) (fun c ec G' H' gr => k2 c ec G' H' (s.fr.trans gr))
/-- .. with the own lists read -/
theorem evB {wd : Wd} {t : TE} {f : SemE} (h : RdE wd W t f) {G0 G : Gh} {σ : L2.St} {H0 H : Hp} {δ : En} {S S' : Sto} {r : Except Nat U} {Q : VK} (s : StJ wd G0 H0 G σ H δ S) (e : f (bor δ) S = some (r, S'))
    (k1 : ∀ u, r = .ok u → ∀ v G' H' Gb, StJ wd G0 H0 G' σ H' δ S' → Keep G H G' H' → Grow wd G0 H0 Gb H' S' → RpU wd Gb H' v u → (noLstU u = true → RpU wd G' H' v u) → Q v H') (k2 : ∀ c, r = .error c → ∀ G' H', Grow wd G0 H0 G' H' S' → W (.ref (wd.ca c)) none σ H') : t σ H Q :=
  h (G.bor σ δ) σ H (bor δ) S r S' Q s.bor e (fun u eu v Gb H' gr rv => by
    obtain ⟨s', kp, g0⟩ := s.unbor gr
    exact k1 u eu v _ H' Gb s' kp g0 rv (fun hn => rpU_flat hn rv)) (fun c ec Gb H' gr => by
    obtain ⟨s', kp, g0⟩ := s.unbor gr
    exact k2 c ec Gb H' g0)
theorem evT {wd : Wd} {t : TT} {f : SemT} (h : RdT wd W t f) {G0 G : Gh} {σ : L2.St} {H0 H : Hp} {δ : En} {S S' : Sto} {r : Except Nat Bool} {Q : Bool → Hp → Prop} (s : StJ wd G0 H0 G σ H δ S) (e : f (bor δ) S = some (r, S'))
    (k1 : ∀ b, r = .ok b → ∀ G' H', StJ wd G0 H0 G' σ H' δ S' → Keep G H G' H' → Q b H') (k2 : ∀ c, r = .error c → ∀ G' H', Grow wd G0 H0 G' H' S' → W (.ref (wd.ca c)) none σ H') : t σ H Q :=
  h (G.bor σ δ) σ H (bor δ) S r S' Q s.bor e (fun b eb Gb H' gr => by
    obtain ⟨s', kp, g0⟩ := s.unbor gr
    exact k1 b eb _ H' s' kp) (fun c ec Gb H' gr => by
    obtain ⟨s', kp, g0⟩ := s.unbor gr
    exact k2 c ec Gb H' g0)
/-! ### blocks -/
def sNil : SemS := fun δ S => some (.nx, δ, S)
def sSeq (s1 s2 : SemS) : SemS := fun δ S => match s1 δ S with
  | some (.nx, δ1, S1) => s2 δ1 S1
  | r => r
theorem ss_nil : SSs g W Xf [] sNil := ⟨tNext, fun _ => pss_nil, fun G0 H0 G σ H δ S fl δ' S' D s e k1 k2 k3 => by
  unfold sNil at e
  cases e
  exact k1 rfl G σ H rfl s Keep.refl⟩
theorem ss_cons {st : Stmt} {rest : List Stmt} {s1 s2 : SemS} (h1 : SS g W Xf st s1) (h2 : SSs g W Xf rest s2) : SSs g W Xf (st :: rest) (sSeq s1 s2) := by
  obtain ⟨t, p1, q1⟩ := h1
  obtain ⟨u, p2, q2⟩ := h2
  refine ⟨L2.tSeq t u, fun i => pss_cons (p1 i) (p2 i), fun G0 H0 G σ H δ S fl δ' S' D s e k1 k2 k3 => ?_⟩
  unfold sSeq at e
  split at e
  · rename_i δ1 S1 h1
    refine q1 G0 H0 G σ H δ S _ δ1 S1 { D with nx := u D } s h1 (fun _ G1 σ1 H1 l1 s1 kp1 => ?_) (fun u z => nomatch z) (fun c z => nomatch z)
    exact q2 G0 H0 G1 σ1 H1 δ1 S1 fl δ' S' D s1 e (fun z G2 σ2 H2 l2 s2 kp2 => k1 z G2 σ2 H2 (l2.trans l1) s2 (kp1.trans kp2)) k2 (fun c z σ2 G2 H2 l2 gr => k3 c z σ2 G2 H2 (l2.trans l1) gr)
  · rename_i hne
    refine q1 G0 H0 G σ H δ S fl δ' S' { D with nx := u D } s e (fun z => ?_) k2 k3
    subst z
    exact absurd e (hne δ' S')
/-! ### return, if, expressions -/
def sRet (f : SemE) : SemS := fun δ S => match f (bor δ) S with
  | some (.ok u, S') => some (.rt u, δ, S')
  | some (.error c, S') => some (.ex c, δ, S')
  | none => none
theorem ss_ret {e : Expr} {f : SemE} {pos : Pos} (h : SE g W Xf e f) : SS g W Xf (.Return (some e) pos) (sRet f) := by
  obtain ⟨t, p1, q1⟩ := h
  refine ⟨tRet t, fun i => ps_ret (p1 i), fun G0 H0 G σ H δ S fl δ' S' D s e k1 k2 k3 => ?_⟩
  unfold sRet at e
  split at e
  · rename_i u S1 h1
    cases e
    refine evB q1 s h1 (fun u' eu v G' H' Gb s' kp gr rv _ => ?_) (fun c z => nomatch z)
    cases eu
    exact k2 u rfl v Gb H' gr rv
  · rename_i c S1 h1
    cases e
    refine evB q1 s h1 (fun u' eu => nomatch eu) (fun c' z G' H' gr => ?_)
    cases z
    exact k3 c rfl σ G' H' rfl gr
  · cases e
def sIf (c : SemT) (s1 s2 : SemS) : SemS := fun δ S => match c (bor δ) S with
  | some (.ok true, S') => s1 δ S'
  | some (.ok false, S') => s2 δ S'
  | some (.error c, S') => some (.ex c, δ, S')
  | none => none
theorem ss_if {c : Expr} {b1 b2 : List Stmt} {f : SemT} {s1 s2 : SemS} {pos : Pos} (hc : ST g W Xf c f) (h1 : SSs g W Xf b1 s1) (h2 : SSs g W Xf b2 s2) : SS g W Xf (.If c b1 b2 pos) (sIf f s1 s2) := by
  obtain ⟨t, p1, q1⟩ := hc
  obtain ⟨u, p2, q2⟩ := h1
  obtain ⟨w, p3, q3⟩ := h2
  refine ⟨tIfS t u w, fun i => ps_if (p1 i) (p2 i) (p3 i), fun G0 H0 G σ H δ S fl δ' S' D s e k1 k2 k3 => ?_⟩
  unfold sIf at e
  split at e
  · rename_i S1 hb
    refine evT q1 s hb (fun b eb G1 H1 s1 kp => ?_) (fun c z => nomatch z)
    cases eb
    rw [if_pos rfl]
    exact q2 G0 H0 G1 σ H1 δ S1 fl δ' S' D s1 e (fun z G2 σ2 H2 l2 s2 kp2 => k1 z G2 σ2 H2 l2 s2 (kp.trans kp2)) k2 k3
  · rename_i S1 hb
    refine evT q1 s hb (fun b eb G1 H1 s1 kp => ?_) (fun c z => nomatch z)
    cases eb
    rw [if_neg Bool.false_ne_true]
    exact q3 G0 H0 G1 σ H1 δ S1 fl δ' S' D s1 e (fun z G2 σ2 H2 l2 s2 kp2 => k1 z G2 σ2 H2 l2 s2 (kp.trans kp2)) k2 k3
  · rename_i c S1 hb
    cases e
    refine evT q1 s hb (fun b eb => nomatch eb) (fun c' z G' H' gr => ?_)
    cases z
    exact k3 c rfl σ G' H' rfl gr
  · cases e
def sExpr (f : SemE) : SemS := fun δ S => match f (bor δ) S with
  | some (.ok _, S') => some (.nx, δ, S')
  | some (.error c, S') => some (.ex c, δ, S')
  | none => none
theorem ss_expr {e : Expr} {f : SemE} {pos : Pos} (h : SE g W Xf e f) (hs : ∀ i, swapsWith e none pos.line (Xf i).env = pure false := by intro _; rfl) : SS g W Xf (.Expr e pos) (sExpr f) := by
  obtain ⟨t, p1, q1⟩ := h
  refine ⟨tDrop t, fun i => ps_expr (p1 i) (hs i), fun G0 H0 G σ H δ S fl δ' S' D s e k1 k2 k3 => ?_⟩
  unfold sExpr at e
  split at e
  · rename_i u S1 h1
    cases e
    refine evB q1 s h1 (fun u' eu v G' H' Gb s' kp gr rv _ => ?_) (fun c z => nomatch z)
    exact k1 rfl G' σ H' rfl s' kp
  · rename_i c S1 h1
    cases e
    refine evB q1 s h1 (fun u' eu => nomatch eu) (fun c' z G' H' gr => ?_)
    cases z
    exact k3 c rfl σ G' H' rfl gr
  · cases e
/-! ### a name bound -/
section
variable {wd : Wd} {G0 G G' : Gh} {σ : L2.St} {H0 H H' : Hp} {δ : En} {S S' : Sto}
theorem StJ.setU (s : StJ wd G0 H0 G σ H δ S) {i : Nat} {v : V} {u : U} (r : RpU wd G H v u) : StJ wd G0 H0 G (σ.set i (some v)) H (δ.set i (some (.u u))) S := by
  refine ⟨s.fr0, s.fr, fun j x e => ?_, fun j xs e => ?_, fun j l xs ys a e1 e2 e3 e4 => ?_, by simpa using s.len, s.dic.set nofun⟩
  · rcases getset e with ⟨rfl, hl, e⟩ | ⟨hn, e⟩
    · cases e
      exact ⟨v, List.getElem?_set_self (by have := s.len; omega), r⟩
    · obtain ⟨w, e1, r1⟩ := s.at_ j x e
      exact ⟨w, by rw [List.getElem?_set_ne hn]; exact e1, r1⟩
  · rcases getset e with ⟨rfl, hl, e⟩ | ⟨hn, e⟩
    · cases e
    · obtain ⟨a, vs, e1, rest⟩ := s.own j xs e
      exact ⟨a, vs, by rw [List.getElem?_set_ne hn]; exact e1, rest⟩
  · rcases getset e1 with ⟨rfl, hl, e⟩ | ⟨hn, e1⟩
    · cases e
    · rcases getset e2 with ⟨rfl, hl, e⟩ | ⟨hn2, e2⟩
      · cases e
      · rw [List.getElem?_set_ne hn] at e3
        rw [List.getElem?_set_ne hn2] at e4
        exact s.ap j l xs ys a e1 e2 e3 e4
/-- an own list is changed -/
theorem StJ.updOwn (s : StJ wd G0 H0 G σ H δ S) {i : Nat} {a : Addr} {vs vs' : List V} {xs xs' : List PyData} (hi : δ[i]? = some (some (.own xs))) (ha : σ[i]? = some (some (.ref a))) (hl : H a = some (.lst vs)) (r : RpAll G.F H vs' xs') :
    StJ wd G0 H0 G σ (upd H a (.lst vs')) (δ.set i (some (.own xs'))) S ∧ Keep G H G (upd H a (.lst vs')) := by
  obtain ⟨_, nf, nm, n0⟩ := s.ownA ⟨i, xs, hi, ha⟩
  have ne : ∀ b o, H b = some o → b ≠ a → upd H a (.lst vs') b = some o := fun b o e n => by rw [upd_ne n]; exact e
  have kp : Keep G H G (upd H a (.lst vs')) := ⟨fun b ys f h => ⟨f, ne b _ h (fun z => nf (z ▸ f))⟩, fun b ys h => ne b _ h (fun z => by rw [z, hl] at h; cases h), fun _ h => h, fun _ t h => ⟨t.2, h⟩, fun b ks f h => ⟨f, ne b _ h (fun z => nf (z ▸ f))⟩⟩
  have ok2 := s.ok.updL (vs' := vs') hl nm
  refine ⟨⟨s.fr0, ⟨ok2, s.fr.sub, s.fr.keep, fun b o h m => ne b o (s.fr.same b o h m) (ne_of_none h n0), s.fr.mem, fun b o h => ?_, s.fr.ta, s.fr.oa⟩, fun j x e => ?_, fun j ys e => ?_, fun j l ys zs b e1 e2 e3 e4 => ?_, by simpa using s.len, (s.dic.to fun b ks e nf nm n0 _ => ⟨ne b _ e (fun z => by rw [z, hl] at e; cases e), nf, nm⟩).setC nofun⟩, kp⟩
  · obtain ⟨o', e⟩ := s.fr.there b o h
    exact ⟨o', ne b o' e (ne_of_none h n0)⟩
  · rcases getset e with ⟨rfl, hl, e⟩ | ⟨hn, e⟩
    · cases e
    · obtain ⟨w, e1, r1⟩ := s.at_ j x e
      exact ⟨w, e1, kp.rpU r1⟩
  · rcases getset e with ⟨rfl, hl', e⟩ | ⟨hn, e⟩
    · cases e
      exact ⟨a, vs', ha, upd_same, kp.rpAll r, nf, nm, n0⟩
    · obtain ⟨b, ws, e1, e2, r1, nf', nm', n0'⟩ := s.own j ys e
      have hba : b ≠ a := fun z => hn (s.ap i j xs ys a hi e ha (z ▸ e1))
      exact ⟨b, ws, e1, ne b _ e2 hba, kp.rpAll r1, nf', nm', n0'⟩
  · have f1 : ∃ us, δ[j]? = some (some (.own us)) := by
      rcases getset e1 with ⟨rfl, hl, e⟩ | ⟨hn, e1⟩
      · exact ⟨xs, hi⟩
      · exact ⟨_, e1⟩
    have f2 : ∃ us, δ[l]? = some (some (.own us)) := by
      rcases getset e2 with ⟨rfl, hl, e⟩ | ⟨hn, e2⟩
      · exact ⟨xs, hi⟩
      · exact ⟨_, e2⟩
    obtain ⟨u1, f1⟩ := f1
    obtain ⟨u2, f2⟩ := f2
    exact s.ap j l u1 u2 b f1 f2 e3 e4
/-- an own list becomes data -/
def frz (i : Nat) (δ : En) : En := match δ[i]? with
  | some (some (.own xs)) => δ.set i (some (.u (.d (.list xs))))
  | _ => δ
theorem StJ.frz (s : StJ wd G0 H0 G σ H δ S) (i : Nat) : ∃ G', StJ wd G0 H0 G' σ H (frz i δ) S ∧ Keep G H G' H := by
  unfold DL.frz
  split
  · rename_i xs hi
    obtain ⟨a, vs, ha, hl, r, nf, nm, n0⟩ := s.own i xs hi
    have kp : Keep G H { G with F := fun b => G.F b ∨ b = a } H := ⟨fun b ys f h => ⟨.inl f, h⟩, fun b ys h => h, fun _ h => h, fun _ t h => ⟨t.2, h⟩, fun b ks f h => ⟨.inl f, h⟩⟩
    refine ⟨{ G with F := fun b => G.F b ∨ b = a }, ⟨s.fr0, ⟨s.ok.withF _ (fun p hp => .inl (s.ok.fresh p hp)) (fun b m f => ?_), fun b f => ?_, fun b o h f => .inl (s.fr.keep b o h f), s.fr.same, s.fr.mem, s.fr.there, s.fr.ta, s.fr.oa⟩, fun j x e => ?_, fun j ys e => ?_, fun j l ys zs b e1 e2 e3 e4 => ?_, by simpa using s.len, (s.dic.to (G' := { G with F := fun b => G.F b ∨ b = a }) fun b ks e nf nm n0 _ => ⟨e, fun f => f.elim nf (fun z => by rw [z, hl] at e; cases e), nm⟩).setC nofun⟩, kp⟩
    · rcases f with f | f
      · exact s.ok.mF b m f
      · exact nm (f ▸ m)
    · rcases f with f | f
      · exact s.fr.sub b f
      · rw [f]; exact s.fr0 a n0
    · rcases getset e with ⟨rfl, hl', e⟩ | ⟨hn, e⟩
      · cases e
        exact ⟨.ref a, ha, .lst (.inr rfl) hl (kp.rpAll r)⟩
      · obtain ⟨w, e1, r1⟩ := s.at_ j x e
        exact ⟨w, e1, kp.rpU r1⟩
    · rcases getset e with ⟨rfl, hl', e⟩ | ⟨hn, e⟩
      · cases e
      · obtain ⟨b, ws, e1, e2, r1, nf', nm', n0'⟩ := s.own j ys e
        refine ⟨b, ws, e1, e2, kp.rpAll r1, fun f => ?_, nm', n0'⟩
        rcases f with f | f
        · exact nf' f
        · exact hn (s.ap i j xs ys a hi e ha (f ▸ e1))
    · rcases getset e1 with ⟨rfl, hl, e⟩ | ⟨hn, e1⟩
      · cases e
      · rcases getset e2 with ⟨rfl, hl, e⟩ | ⟨hn2, e2⟩
        · cases e
        · exact s.ap j l ys zs b e1 e2 e3 e4
  · exact ⟨G, s, Keep.refl⟩
end
def sFrz (i : Nat) (f : SemS) : SemS := fun δ S => f (frz i δ) S
theorem ss_frz (i : Nat) {st : List Stmt} {f : SemS} (h : SSs g W Xf st f) : SSs g W Xf st (sFrz i f) := by
  obtain ⟨t, p1, q1⟩ := h
  refine ⟨t, p1, fun G0 H0 G σ H δ S fl δ' S' D s e k1 k2 k3 => ?_⟩
  obtain ⟨G', s', kp⟩ := s.frz i
  exact q1 G0 H0 G' σ H (frz i δ) S fl δ' S' D s' e (fun z G2 σ2 H2 l2 s2 kp2 => k1 z G2 σ2 H2 l2 s2 (kp.trans kp2)) k2 k3
/-- name = value: how the statement is read -/
def SetOk {ι : Type} (Xf : ι → Cx) (i : Nat) (st : Stmt) (t : TE) : Prop := ∀ j, PS (Xf j) st (tAsg t (gName i))
theorem set_ok (i : Nat) {x : Str} {e : Expr} {t : TE} {pos pos' : Pos} (F : Fm g W k Xf) (he : ∀ j, PE (Xf j) e t) (hi : ∀ j, (Xf j).N[i]? = some x) (hx : ∀ j, Loc (Xf j).env.scope x) (hs : ∀ j, swapsWith e (some (.Name x pos')) pos.line (Xf j).env = pure false)
    (hf : ∀ j, (Xf j).fn x = true ∨ (Xf j).env.scope.names.lookup x = some .local) : SetOk Xf i (.Assign [.Name x pos'] e pos) t := fun j => ps_set (F.nd j) (hi j) (hx j) (he j) (hs j) (hf j)
/-- stored as data -/
def sAsg (i : Nat) (f : SemE) : SemS := fun δ S => match f δ S with
  | some (.ok u, S') => some (.nx, δ.set i (some (.u u)), S')
  | some (.error c, S') => some (.ex c, δ, S')
  | none => none
/-- .. own lists read, no list within the value -/
def sAsgB (i : Nat) (f : SemE) : SemS := fun δ S => match f (bor δ) S with
  | some (.ok u, S') => if noLstU u = true then some (.nx, δ.set i (some (.u u)), S') else none
  | some (.error c, S') => some (.ex c, δ, S')
  | none => none
/-- .. a new list without lists within -/
def sAsgF (i : Nat) (f : SemE) : SemS := fun δ S => match f (bor δ) S with
  | some (.ok (.d (.list ds)), S') => if noLstAll ds = true then some (.nx, δ.set i (some (.u (.d (.list ds)))), S') else none
  | some (.error c, S') => some (.ex c, δ, S')
  | _ => none
/-- .. a new own list -/
def sOwn (i : Nat) (f : SemE) : SemS := fun δ S => match f δ S with
  | some (.ok (.d (.list ds)), S') => some (.nx, δ.set i (some (.own ds)), S')
  | some (.error c, S') => some (.ex c, δ, S')
  | _ => none
end
end DL
set_option maxHeartbeats 1000000
/-! The data layer: more statements. -/
namespace DL
open PySem L2 PySem.W PySem.SeqAt
section
variable {wd : Wd} {G0 G G' : Gh} {σ : L2.St} {H0 H H' : Hp} {δ : En} {S S' : Sto}
/-- a new list that no name holds yet -/
structure Pend (H0 : Hp) (G : Gh) (σ : L2.St) (δ : En) (H : Hp) (p : Addr) (vs : List V) (ds : List PyData) : Prop where
  at_ : H p = some (.lst vs)
  ra : RpAll G.F H vs ds
  nf : ¬ G.F p
  nm : ¬ G.M p
  h0 : H0 p = none
  no : ¬ OwnA σ δ p
theorem Pend.grow {p : Addr} {vs : List V} {ds : List PyData} (P : Pend H0 G σ δ H p vs ds) (ok : GOk wd G H S) (gr : Grow wd G H G' H' S') : Pend H0 G' σ δ H' p vs ds :=
  ⟨gr.same p _ P.at_ P.nm, gr.rpAll ok P.ra, fun f => P.nf (gr.sub p f), fun m => (gr.mem p m).elim (fun z => P.nm z) (fun z => by rw [P.at_] at z; cases z), P.h0, P.no⟩
theorem StJ.apart (s : StJ wd G0 H0 G σ H δ S) {p : Addr} {vs : List V} {ds : List PyData} (gr : Grow wd G H G' H' S') (hp : H p = none) (fp : G'.F p) (hl : H' p = some (.lst vs)) (ra : RpAll (fun a => G'.F a ∧ a ≠ p) H' vs ds) :
    StJ wd G0 H0 { G' with F := fun a => G'.F a ∧ a ≠ p } σ H' δ S' ∧ Keep G H { G' with F := fun a => G'.F a ∧ a ≠ p } H' ∧ Pend H0 { G' with F := fun a => G'.F a ∧ a ≠ p } σ δ H' p vs ds := by
  have nep : ∀ a o, H a = some o → a ≠ p := fun a o h => ne_of_none h hp
  have kp : Keep G H { G' with F := fun a => G'.F a ∧ a ≠ p } H' := ⟨fun a xs f h => ⟨⟨gr.keep a _ h f, nep a _ h⟩, (gr.lst s.ok f h).2⟩, fun a xs h => gr.tup s.ok h, gr.ta, gr.oa, fun a ks f h => ⟨⟨gr.keep a _ h f, nep a _ h⟩, gr.same a _ h fun m => s.ok.mF a m f⟩⟩
  have h0 : H0 p = none := s.fr.none_of hp
  have fr := s.fr.trans gr
  have okF : GOk wd { G' with F := fun a => G'.F a ∧ a ≠ p } H' S' := gr.ok.withF _ (fun q hq => ⟨gr.ok.fresh q hq, fun z => by rw [z, hl] at hq; cases hq⟩) (fun a m f => gr.ok.mF a m f.1)
  have nm : ¬ G'.M p := fun m => gr.ok.mF p m fp
  refine ⟨⟨s.fr0, ⟨okF, fun a f => fr.sub a f.1, fun a o h f => ⟨fr.keep a o h f, fun z => by rw [z, h0] at h; cases h⟩, fr.same, fr.mem, fr.there, fr.ta, fr.oa⟩, fun i x e => ?_, fun i xs e => ?_, s.ap, s.len, (s.dic.grow gr).to (G' := { G' with F := fun a => G'.F a ∧ a ≠ p }) fun a ks e nf nm n0 _ => ⟨e, fun f => nf f.1, nm⟩⟩, kp, ⟨hl, ra, fun f => f.2 rfl, nm, h0, fun o => ?_⟩⟩
  · obtain ⟨v, e1, r⟩ := s.at_ i x e
    exact ⟨v, e1, kp.rpU r⟩
  · obtain ⟨a, ws, e1, e2, r, nf', nm', n0⟩ := s.own i xs e
    refine ⟨a, ws, e1, gr.same a _ e2 nm', kp.rpAll r, fun f => nf' (gr.sub a f.1), fun m => ?_, n0⟩
    rcases gr.mem a m with z | z
    · exact nm' z
    · rw [e2] at z; cases z
  · obtain ⟨⟨ws, e⟩, _⟩ := s.ownA o
    rw [hp] at e; cases e
theorem StJ.addOwn (s : StJ wd G0 H0 G σ H δ S) {i : Nat} {p : Addr} {vs : List V} {ds : List PyData} (P : Pend H0 G σ δ H p vs ds) : StJ wd G0 H0 G (σ.set i (some (.ref p))) H (δ.set i (some (.own ds))) S := by
  refine ⟨s.fr0, s.fr, fun j x e => ?_, fun j xs e => ?_, fun j l xs ys a e1 e2 e3 e4 => ?_, by simpa using s.len, s.dic.set nofun⟩
  · rcases getset e with ⟨rfl, hl, e⟩ | ⟨hn, e⟩
    · cases e
    · obtain ⟨w, e1, r1⟩ := s.at_ j x e
      exact ⟨w, by rw [List.getElem?_set_ne hn]; exact e1, r1⟩
  · rcases getset e with ⟨rfl, hl, e⟩ | ⟨hn, e⟩
    · cases e
      exact ⟨p, vs, List.getElem?_set_self (by have := s.len; omega), P.at_, P.ra, P.nf, P.nm, P.h0⟩
    · obtain ⟨a, ws, e1, rest⟩ := s.own j xs e
      exact ⟨a, ws, by rw [List.getElem?_set_ne hn]; exact e1, rest⟩
  · rcases getset e1 with ⟨rfl, hl, e⟩ | ⟨hn, e1⟩
    · cases e
      rcases getset e2 with ⟨rfl, hl, e⟩ | ⟨hn2, e2⟩
      · rfl
      · rw [List.getElem?_set_ne hn2] at e4
        rw [List.getElem?_set_self (by have := s.len; omega)] at e3
        cases e3
        exact absurd ⟨l, ys, e2, e4⟩ P.no
    · rcases getset e2 with ⟨rfl, hl, e⟩ | ⟨hn2, e2⟩
      · cases e
        rw [List.getElem?_set_ne hn] at e3
        rw [List.getElem?_set_self (by have := s.len; omega)] at e4
        cases e4
        exact absurd ⟨j, xs, e1, e3⟩ P.no
      · rw [List.getElem?_set_ne hn] at e3
        rw [List.getElem?_set_ne hn2] at e4
        exact s.ap j l xs ys a e1 e2 e3 e4
/-! ### a value of a kind: data, or an own list -/
inductive Kd where
  | dat | own
def RdK (wd : Wd) (W : WX) : Kd → TE → SemE → Prop
  | .dat, t, f => RdE wd W t f
  | .own, t, f => RdF wd W t f
def put : Kd → U → Option Cell
  | .dat, u => some (.u u)
  | .own, .d (.list ds) => some (.own ds)
  | .own, _ => none
def ValOk (wd : Wd) (H0 : Hp) (G : Gh) (σ : L2.St) (δ : En) (H : Hp) (v : V) (u : U) : Kd → Prop
  | .dat => RpU wd G H v u
  | .own => ∃ p vs ds, v = .ref p ∧ u = .d (.list ds) ∧ Pend H0 G σ δ H p vs ds
theorem ValOk.grow {v : V} {u : U} {kd : Kd} (h : ValOk wd H0 G σ δ H v u kd) (ok : GOk wd G H S) (gr : Grow wd G H G' H' S') : ValOk wd H0 G' σ δ H' v u kd := by
  cases kd with
  | dat => exact gr.rpU ok h
  | own =>
    obtain ⟨p, vs, ds, e1, e2, P⟩ := h
    exact ⟨p, vs, ds, e1, e2, P.grow ok gr⟩
theorem StJ.put (s : StJ wd G0 H0 G σ H δ S) {i : Nat} {v : V} {u : U} {kd : Kd} {c : Cell} (h : ValOk wd H0 G σ δ H v u kd) (e : put kd u = some c) : StJ wd G0 H0 G (σ.set i (some v)) H (δ.set i (some c)) S := by
  cases kd with
  | dat =>
    cases e
    exact s.setU h
  | own =>
    obtain ⟨p, vs, ds, rfl, rfl, P⟩ := h
    cases e
    exact s.addOwn P
/-- evaluated as a kind; what was new is told -/
theorem evK {W : WX} {kd : Kd} {t : TE} {f : SemE} (h : RdK wd W kd t f) {r : Except Nat U} {Q : VK} (s : StJ wd G0 H0 G σ H δ S) (e : f δ S = some (r, S'))
    (k1 : ∀ u, r = .ok u → (kd = .own → ∃ ds, u = .d (.list ds)) → ∀ v G' H', StJ wd G0 H0 G' σ H' δ S' → Keep G H G' H' → ValOk wd H0 G' σ δ H' v u kd → (∀ p, kd = .own → v = .ref p → H p = none) → (∀ a o, H a = some o → ¬ G.M a → H' a = some o) → (∀ a, ¬ G.F a → H a ≠ none → ¬ G'.F a) → (∀ a o, H a = some o → ¬ G.M a → ¬ G'.M a) → Q v H') (k2 : ∀ c, r = .error c → ∀ G' H', Grow wd G0 H0 G' H' S' → W (.ref (wd.ca c)) none σ H') : t σ H Q := by
  cases kd with
  | dat =>
    refine h G σ H δ S r S' Q s.st0 e (fun u eu v G' H' gr rv => k1 u eu (fun z => nomatch z) v G' H' (s.grow gr) (gr.kp s.ok) rv (fun _ z => nomatch z) gr.same (fun a nf _ f => nf (gr.sub a f)) (fun a o ho nm m => ?_)) (fun c ec G' H' gr => k2 c ec G' H' (s.fr.trans gr))
    rcases gr.mem a m with z | z
    · exact nm z
    · rw [ho] at z; cases z
  | own =>
    refine h G σ H δ S r S' Q s.st0 e (fun ds ed p vs G' H' hp fp gr hl ra => ?_) (fun c ec G' H' gr => k2 c ec G' H' (s.fr.trans gr))
    obtain ⟨s', kp, P⟩ := s.apart gr hp fp hl ra
    refine k1 _ ed (fun _ => ⟨ds, rfl⟩) (.ref p) _ H' s' kp ⟨p, vs, ds, rfl, rfl, P⟩ (fun q _ eq => by cases eq; exact hp) gr.same (fun a nf _ f => nf (gr.sub a f.1)) (fun a o ho nm m => ?_)
    rcases gr.mem a m with z | z
    · exact nm z
    · rw [ho] at z; cases z
end
section
variable {g : Gb} {W : WX} {ι : Type} {Xf : ι → Cx} {k : Nat}
def SK (g : Gb) (W : WX) {ι : Type} (Xf : ι → Cx) (kd : Kd) (e : Expr) (f : SemE) : Prop := ∃ t, (∀ i, PE (Xf i) e t) ∧ RdK g.wd W kd t f
theorem SE.dat {e : Expr} {f : SemE} (h : SE g W Xf e f) : SK g W Xf .dat e f := h
theorem SF.own {e : Expr} {f : SemE} (h : SF g W Xf e f) : SK g W Xf .own e f := h
/-- x = e -/
def sSet (kd : Kd) (i : Nat) (f : SemE) : SemS := fun δ S => match f δ S with
  | some (.ok u, S') => (match put kd u with
    | some c => some (.nx, δ.set i (some c), S')
    | none => none)
  | some (.error c, S') => some (.ex c, δ, S')
  | none => none
theorem rd_set {wd : Wd} {t : TE} {f : SemE} {i : Nat} {kd : Kd} (q1 : RdK wd W kd t f) : RdS wd W (tAsg t (gName i)) (sSet kd i f) := fun G0 H0 G σ H δ S fl δ' S' D s e k1 k2 k3 => by
  unfold sSet at e
  split at e
  · rename_i u S1 h1
    split at e
    · rename_i c hc
      cases e
      refine evK q1 s h1 (fun u' eu _ v G' H' s' kp rv _ _ _ _ => ?_) (fun c z => nomatch z)
      cases eu
      exact k1 rfl G' _ H' (by simp) (s'.put rv hc) kp
    · cases e
  · rename_i c S1 h1
    cases e
    refine evK q1 s h1 (fun u' eu => nomatch eu) (fun c' z G' H' gr => ?_)
    cases z
    exact k3 c rfl σ G' H' rfl gr
  · cases e
theorem ss_set (kd : Kd) (i : Nat) {x : Str} {e : Expr} {f : SemE} {pos pos' : Pos} (F : Fm g W k Xf) (he : SK g W Xf kd e f) (hi : ∀ j, (Xf j).N[i]? = some x := by intro _; rfl) (hx : ∀ j, Loc (Xf j).env.scope x := by first | exact fun _ => Or.inl rfl | exact fun _ => Or.inr rfl)
    (hs : ∀ j, swapsWith e (some (.Name x pos')) pos.line (Xf j).env = pure false := by intro _; rfl) (hf : ∀ j, (Xf j).fn x = true ∨ (Xf j).env.scope.names.lookup x = some .local := by first | exact fun _ => Or.inl rfl | exact fun _ => Or.inr rfl) :
    SS g W Xf (.Assign [.Name x pos'] e pos) (sSet kd i f) := by
  obtain ⟨t, p1, q1⟩ := he
  exact ⟨_, set_ok i F p1 hi hx hs hf, rd_set q1⟩
/-! ### name = [.. for ..], the name a plain local -/
def SLc (g : Gb) (W : WX) {ι : Type} (Xf : ι → Cx) (i : Nat) (x : Str) (pos' pos : Pos) (e : Expr) (f : SemE) : Prop := ∃ t, (∀ j, PS (Xf j) (.Assign [.Name x pos'] e pos) (tAsg t (gName i))) ∧ RdF g.wd W t f
theorem slc {elt tg iter : Expr} {ifs : List Expr} {scope : Scope} {pos pos' spos : Pos} {it : SemI} {tgs : Tg} {test : SemT} {fe : SemE} {i : Nat} {x : Str} (own : List (Str × Nat)) (N : List Str) (F : Fm g W k Xf) (hi : SI g W Xf tg iter it)
    (hg : SG g (blkF Xf scope) tg tgs) (ht : SQ g W0 (blkF Xf scope) ifs test) (he : SE g W0 (blkF Xf scope) elt fe) (hb : ∀ i, blkC N (Xf i).env.scope scope own = true := by intro _; kernel_rfl) (hN : ∀ i, (Xf i).N = N := by intro _; rfl)
    (hv : (tgs.slots.all fun i => (own.map (·.2)).contains i) = true := by decide) (hs : ∀ i x, foldedSetIterable iter (Xf i).env x = pure x := by intro _ _; rfl)
    (hx : ∀ j, (Xf j).N[i]? = some x := by intro _; rfl) (hxl : ∀ j, (Xf j).env.scope.names.lookup x = some .local := by intro _; rfl) (hk : ∀ j, (Xf j).env.scope.kind = .function := by intro _; rfl) (hl : (pos'.line == pos.line) = true := by rfl)
    (ha : (scope.names.any fun (n, k) => n == x && (k == .local || k == .cell)) = false := by kernel_rfl) :
    SLc g W Xf i x pos' spos (.ListComp elt [⟨tg, iter, ifs, 0⟩] scope pos) (eLc it (own.map (·.2)) tgs test fe) := by
  obtain ⟨wi, i1, i2⟩ := hi
  obtain ⟨gt, g1, g2⟩ := hg
  obtain ⟨tt, t1, t2⟩ := ht
  obtain ⟨te, e1, e2⟩ := he
  refine ⟨tLc wi gt tt te (own.map (·.2)), fun j => ps_setLc (F.calm j) (F.nd j) (hx j) (hxl j) (sw_true (hk j) (hxl j) hl ha) (i1 j) ?_ (fun s H C cl fp => g1 (j, s, H, C, cl, fp)) (fun s H C cl fp => t1 (j, s, H, C, cl, fp)) (fun s H C cl fp => e1 (j, s, H, C, cl, fp)) (hs j), rd_lc i2 g2 t2 e2 fun i hi => ?_⟩
  · rw [hN j]
    exact blkOk_by (hb j)
  · exact List.contains_iff_mem.mp (List.all_eq_true.mp hv i hi)
theorem ss_lc {i : Nat} {x : Str} {e : Expr} {f : SemE} {pos pos' : Pos} (h : SLc g W Xf i x pos' pos e f) : SS g W Xf (.Assign [.Name x pos'] e pos) (sSet .dat i f) := by
  obtain ⟨t, p1, q1⟩ := h
  exact ⟨_, p1, rd_set (kd := .dat) (rdE_of_F q1)⟩
/-! ### a, b = e1, e2 -/
def sPar (k1 : Kd) (i : Nat) (f1 : SemE) (k2 : Kd) (j : Nat) (f2 : SemE) : SemS := fun δ S => match f1 δ S with
  | some (.ok u, S1) => (match f2 δ S1 with
    | some (.ok w, S2) => (match put k1 u, put k2 w with
      | some c, some d => some (.nx, (δ.set i (some c)).set j (some d), S2)
      | _, _ => none)
    | some (.error c, S2) => some (.ex c, δ, S2)
    | none => none)
  | some (.error c, S1) => some (.ex c, δ, S1)
  | none => none
theorem put2 {wd : Wd} {G0 G1 G2 : Gh} {σ : L2.St} {H0 H1 H2 : Hp} {δ : En} {S1 S2 : Sto} {x y : V} {u w : U} {k1 k2 : Kd} {c d : Cell} {i j : Nat} (s1 : StJ wd G0 H0 G1 σ H1 δ S1) (s2 : StJ wd G0 H0 G2 σ H2 δ S2) (v1 : ValOk wd H0 G1 σ δ H1 x u k1) (v1' : ValOk wd H0 G2 σ δ H2 x u k1) (v2 : ValOk wd H0 G2 σ δ H2 y w k2)
    (hn : ∀ p, k2 = .own → y = .ref p → H1 p = none) (e1 : put k1 u = some c) (e2 : put k2 w = some d) : StJ wd G0 H0 G2 ((σ.set i (some x)).set j (some y)) H2 ((δ.set i (some c)).set j (some d)) S2 := by
  refine (s2.put (i := i) v1' e1).put (i := j) ?_ e2
  cases k2 with
  | dat => exact v2
  | own =>
    obtain ⟨p, vs, ds, rfl, rfl, P⟩ := v2
    refine ⟨p, vs, ds, rfl, rfl, P.at_, P.ra, P.nf, P.nm, P.h0, fun o => ?_⟩
    obtain ⟨l, xs, o1, o2⟩ := o
    rcases getset o1 with ⟨rfl, hl, ec⟩ | ⟨hne, o1⟩
    · cases k1 with
      | dat =>
        cases e1
        cases ec
      | own =>
        obtain ⟨p1, ws, es, rfl, rfl, P1⟩ := v1
        rw [List.getElem?_set_self (by have := s2.len; omega)] at o2
        cases o2
        have := hn p rfl rfl
        rw [P1.at_] at this
        cases this
    · rw [List.getElem?_set_ne hne] at o2
      exact P.no ⟨l, xs, o1, o2⟩
/-- both names plain locals -/
theorem ss_par (k1 : Kd) (i : Nat) (k2 : Kd) (j : Nat) {x y : Str} {a b : Expr} {f1 f2 : SemE} {px py pt pt2 pos : Pos} {kt kt2 : Nat} (F : Fm g W k Xf) (h1 : SK g W Xf k1 a f1) (h2 : SK g W Xf k2 b f2) (hij : i ≠ j := by decide)
    (hi : ∀ l, (Xf l).N[i]? = some x := by intro _; rfl) (hj : ∀ l, (Xf l).N[j]? = some y := by intro _; rfl) (hx : ∀ l, (Xf l).env.scope.names.lookup x = some .local := by intro _; rfl) (hy : ∀ l, (Xf l).env.scope.names.lookup y = some .local := by intro _; rfl)
    (hw : ∀ l, swappedStores [.Tuple [.Name x px, .Name y py] kt pt] (.Tuple [a, b] kt2 pt2) (Xf l).env = pure (some [x, y]) := by intro _; rfl)
    (hs : ∀ l, swapsWithSole [.Tuple [.Name x px, .Name y py] kt pt] (.Tuple [a, b] kt2 pt2) pos.line (Xf l).env = pure false := by intro _; rfl)
    (ha : ∀ l, starEach [a, b] (Xf l).env = (false, eval a (Xf l).env) :: starEach [b] (Xf l).env := by intro _; rfl) (hb : ∀ l, starEach [b] (Xf l).env = (false, eval b (Xf l).env) :: starEach [] (Xf l).env := by intro _; rfl) :
    SS g W Xf (.Assign [.Tuple [.Name x px, .Name y py] kt pt] (.Tuple [a, b] kt2 pt2) pos) (sPar k1 i f1 k2 j f2) := by
  obtain ⟨t1, p1, q1⟩ := h1
  obtain ⟨t2, p2, q2⟩ := h2
  refine ⟨tPar i j (tCons t1 (tCons t2 tNil)), fun l => ps_par (F.calm l) (F.nd l) (hi l) (hj l) hij (hx l) (hy l) (pa_cons (p1 l) (pa_cons (p2 l) pa_nil (hb l)) (ha l)) (hw l) (hs l), fun G0 H0 G σ H δ S fl δ' S' D s e k1' k2' k3' => ?_⟩
  unfold sPar at e
  split at e
  · rename_i u S1 hu
    refine evK q1 s hu (fun u' eu _ v G1 H1 s1 kp1 rv _ _ _ _ => ?_) (fun c z => nomatch z)
    cases eu
    split at e
    · rename_i w S2 hw2
      split at e
      · rename_i c d hc hd
        cases e
        refine evK q2 s1 hw2 (fun w' ew _ v2 G2 H2 s2 kp2 rv2 hn same nF nM => ?_) (fun c z => nomatch z)
        cases ew
        refine ⟨v, v2, rfl, k1' rfl G2 _ H2 (by simp) (put2 s1 s2 rv ?_ rv2 hn hc hd) (kp1.trans kp2)⟩
        cases k1 with
        | dat => exact kp2.rpU rv
        | own =>
          obtain ⟨p, vs, ds, r1, r2, P⟩ := rv
          exact ⟨p, vs, ds, r1, r2, same p _ P.at_ P.nm, kp2.rpAll P.ra, nF p P.nf (by rw [P.at_]; exact fun z => nomatch z), nM p _ P.at_ P.nm, P.h0, P.no⟩
      · cases e
    · rename_i c S2 hw2
      cases e
      refine evK q2 s1 hw2 (fun u' eu => nomatch eu) (fun c' z G' H' gr => ?_)
      cases z
      exact k3' c rfl σ G' H' rfl gr
    · cases e
  · rename_i c S1 hu
    cases e
    refine evK q1 s hu (fun u' eu => nomatch eu) (fun c' z G' H' gr => ?_)
    cases z
    exact k3' c rfl σ G' H' rfl gr
  · cases e
/-! ### a, b = e -/
theorem StJ.setAll {wd : Wd} {G0 G : Gh} {H0 H : Hp} {S : Sto} : ∀ {ws : List (Nat × V)} {ps : List (Nat × PyData)} {σ : L2.St} {δ : En}, StJ wd G0 H0 G σ H δ S → RpP G.F H ws ps → StJ wd G0 H0 G (setV σ ws) H (setD δ ps) S
  | _, _, _, _, s, .nil => s
  | (i, v) :: ws, (j, d) :: ps, σ, δ, s, .cons h t => by
    obtain ⟨e, r⟩ := h
    have e : i = j := e
    subst e
    exact StJ.setAll (σ := σ.set i (some v)) (δ := δ.set i (some (.u (.d d)))) (s.setU (i := i) (v := v) (u := .d d) r) t
theorem setV_length : ∀ (ws : List (Nat × V)) (σ : L2.St), (setV σ ws).length = σ.length
  | [], _ => rfl
  | (i, v) :: ws, σ => by
    unfold setV
    rw [setV_length ws, List.length_set]
def sUnp (tg : Tg) (f : SemE) : SemS := fun δ S => match f δ S with
  | some (.ok (.d x), S') => (match tg.split x with
    | some ps => some (.nx, setD δ ps, S')
    | none => none)
  | some (.error c, S') => some (.ex c, δ, S')
  | _ => none
theorem ss_unp {tge e : Expr} {tg : Tg} {f : SemE} {pos : Pos} (hg : SG g Xf tge tg) (h : SE g W Xf e f) (hs : ∀ l, swapsWithSole [tge] e pos.line (Xf l).env = pure false := by intro _; rfl) (hw : ∀ l, swappedStores [tge] e (Xf l).env = pure none := by intro _; rfl)
    (ho : ∀ l, (assignEach [tge] (Xf l).env).map (·.2) = [assign tge (Xf l).env] := by intro _; rfl) : SS g W Xf (.Assign [tge] e pos) (sUnp tg f) := by
  obtain ⟨gt, g1, g2⟩ := hg
  obtain ⟨t, p1, q1⟩ := h
  refine ⟨tAsg t gt, fun l => ps_asg (p1 l) (g1 l) (hs l) (hw l) (ho l), fun G0 H0 G σ H δ S fl δ' S' D s e k1 k2 k3 => ?_⟩
  unfold sUnp at e
  split at e
  · rename_i x S1 h1
    split at e
    · rename_i ps hps
      cases e
      refine evN q1 s h1 (fun u' eu v G' H' s' kp rv => ?_) (fun c z => nomatch z)
      cases eu
      exact g2 G'.F H' σ v x ps _ rv hps fun ws hws => k1 rfl G' _ H' (setV_length ws σ) (s'.setAll hws) kp
    · cases e
  · rename_i c S1 h1
    cases e
    refine evN q1 s h1 (fun u' eu => nomatch eu) (fun c' z G' H' gr => ?_)
    cases z
    exact k3 c rfl σ G' H' rfl gr
  · cases e
end
end DL
set_option maxHeartbeats 1000000
/-! The data layer: loops, raise, defs and their calls. -/
namespace DL
open PySem L2 PySem.W PySem.SeqAt
section
variable {g : Gb} {W : WX} {ι : Type} {Xf : ι → Cx} {k : Nat}
/-! ### x.append(e), x.extend(e), x.pop() -/
def sApp (i : Nat) (f : SemE) : SemS := fun δ S => match δ[i]? with
  | some (some (.own xs)) => (match f δ S with
    | some (.ok (.d y), S') => if xs.length < LIM then some (.nx, δ.set i (some (.own (xs ++ [y]))), S') else none
    | some (.error c, S') => some (.ex c, δ, S')
    | _ => none)
  | _ => none
def sAppB (i : Nat) (f : SemE) : SemS := fun δ S => match δ[i]? with
  | some (some (.own xs)) => (match f (bor δ) S with
    | some (.ok (.d y), S') => if xs.length < LIM ∧ noLst y = true then some (.nx, δ.set i (some (.own (xs ++ [y]))), S') else none
    | some (.error c, S') => some (.ex c, δ, S')
    | _ => none)
  | _ => none
def sExt (i : Nat) (f : SemE) : SemS := fun δ S => match δ[i]? with
  | some (some (.own xs)) => (match f δ S with
    | some (.ok (.d (.list ys)), S') => if xs.length + ys.length ≤ LIM then some (.nx, δ.set i (some (.own (xs ++ ys))), S') else none
    | some (.error c, S') => some (.ex c, δ, S')
    | _ => none)
  | _ => none
theorem lim_lt {n : Nat} (h : n < LIM) : n < sizeLine := Nat.lt_of_lt_of_le h (by decide)
theorem rd_app {wd : Wd} {t : TE} {f : SemE} {i : Nat} (q1 : RdE wd W t f) : RdS wd W (tDrop (tBM wd.K "list" rAppend (tVar i) (tCons t tNil))) (sApp i f) := fun G0 H0 G σ H δ S fl δ' S' D s e k1 k2 k3 => by
  unfold sApp at e
  split at e
  · rename_i xs hi
    obtain ⟨a, vs, ha, hal, r, nf, nm, n0⟩ := s.own i xs hi
    refine ⟨.ref a, ha, .inl ⟨rfl, vs, .inl (.inl hal)⟩, ?_⟩
    split at e
    · rename_i y S1 h1
      split at e
      · rename_i hl
        cases e
        refine evN q1 s h1 (fun u' eu v G' H' s' kp rv => ?_) (fun c z => nomatch z)
        cases eu
        obtain ⟨a', vs', ha', hal', r', _⟩ := s'.own i xs hi
        rw [ha] at ha'
        cases ha'
        obtain ⟨s2, kp2⟩ := s'.updOwn (vs' := vs' ++ [v]) (xs' := xs ++ [y]) hi ha hal' (r'.append (.cons rv .nil))
        exact ⟨a, vs', v, rfl, rfl, hal', lim_lt (by rw [r'.length]; exact hl), k1 rfl G' σ _ rfl s2 (kp.trans kp2)⟩
      · cases e
    · rename_i c S1 h1
      cases e
      refine evN q1 s h1 (fun u' eu => nomatch eu) (fun c' z G' H' gr => ?_)
      cases z
      exact k3 c rfl σ G' H' rfl gr
    · cases e
  · cases e
/-- how x.m(e) as a statement is read -/
theorem ps_m1 (i : Nat) {x name : Str} {id : String} {r : V → List V → Hp → VK → Prop} {e : Expr} {t : TE} {p apos cpos pos : Pos} (F : Fm g W k Xf) (slot : Slot "list" name id) (hty : typeOf (.builtin id) = pure (.type "method_descriptor")) (hm : ∀ j, MtR (Xf j) id r) (he : ∀ j, PE (Xf j) e t) (hN : ∀ j, (Xf j).N[i]? = some x) (hv : ∀ j, Vis (Xf j).env.scope x) (hd : (x == ("__debug__" : Str)) = false) (hcd : (x == ("__classdict__" : Str)) = false)
    (hs : ∀ j, starEach [e] (Xf j).env = (false, eval e (Xf j).env) :: starEach [] (Xf j).env)
    (hline : (apos.endLine == cpos.line) = true) (hb : ∀ j, attributeBase (.Name x p) name (Xf j).env (eval (.Name x p) (Xf j).env) = eval (.Name x p) (Xf j).env) (hw : ∀ j, swapsWith (.Call (.Attribute (.Name x p) name apos) [e] [] cpos) none pos.line (Xf j).env = pure false) :
    ∀ j, PS (Xf j) (.Expr (.Call (.Attribute (.Name x p) name apos) [e] [] cpos) pos) (tDrop (tBM g.wd.K "list" r (tVar i) (tCons t tNil))) := fun j =>
  ps_expr (F.K j ▸ pe_bm PySem.F.plainAttrs_list slot hty (hm j) (pe_var (hN j) (hv j) hd hcd) (pa_cons (he j) pa_nil (hs j)) (hb j) (by rw [hs j]; rfl) hline (hs j) rfl) (hw j)
theorem ss_app (i : Nat) {x : Str} {e : Expr} {f : SemE} {p apos cpos pos : Pos} (F : Fm g W k Xf) (he : SE g W Xf e f) (hN : ∀ j, (Xf j).N[i]? = some x := by intro _; rfl)
    (hv : ∀ j, Vis (Xf j).env.scope x := by first | exact fun _ => Or.inl rfl | exact fun _ => Or.inr (Or.inl rfl) | exact fun _ => Or.inr (Or.inr rfl)) (hd : (x == ("__debug__" : Str)) = false := by decide) (hcd : (x == ("__classdict__" : Str)) = false := by decide)
    (hs : ∀ j, starEach [e] (Xf j).env = (false, eval e (Xf j).env) :: starEach [] (Xf j).env := by intro _; rfl) (hline : (apos.endLine == cpos.line) = true := by rfl)
    (hb : ∀ j, attributeBase (.Name x p) "append" (Xf j).env (eval (.Name x p) (Xf j).env) = eval (.Name x p) (Xf j).env := by intro _; rfl) (hw : ∀ j, swapsWith (.Call (.Attribute (.Name x p) "append" apos) [e] [] cpos) none pos.line (Xf j).env = pure false := by intro _; rfl) :
    SS g W Xf (.Expr (.Call (.Attribute (.Name x p) "append" apos) [e] [] cpos) pos) (sApp i f) := by
  obtain ⟨t, p1, q1⟩ := he
  exact ⟨_, ps_m1 i F PySem.F.slot_list_append PySem.F.type_list_append (fun j => mt_append) p1 hN hv hd hcd hs hline hb hw, rd_app q1⟩
/-- a, b = x.pop() -/
def sPop (i : Nat) (tg : Tg) : SemS := fun δ S => match δ[i]? with
  | some (some (.own xs)) => (match xs[xs.length - 1]? with
    | some y => (match tg.split y with
      | some ps => some (.nx, setD (δ.set i (some (.own xs.dropLast))) ps, S)
      | none => none)
    | none => none)
  | _ => none
theorem rp_dropLast {F : Addr → Prop} {H : Hp} {vs : List V} {ds : List PyData} (h : RpAll F H vs ds) : RpAll F H vs.dropLast ds.dropLast := by
  rw [List.dropLast_eq_take, List.dropLast_eq_take, h.length]
  exact h.take _
theorem ss_pop (i : Nat) {x : Str} {tge : Expr} {tg : Tg} {p apos cpos pos : Pos} (F : Fm g W k Xf) (hg : SG g Xf tge tg) (hN : ∀ j, (Xf j).N[i]? = some x := by intro _; rfl)
    (hv : ∀ j, Vis (Xf j).env.scope x := by first | exact fun _ => Or.inl rfl | exact fun _ => Or.inr (Or.inl rfl) | exact fun _ => Or.inr (Or.inr rfl)) (hd : (x == ("__debug__" : Str)) = false := by decide) (hcd : (x == ("__classdict__" : Str)) = false := by decide) (hline : (apos.endLine == cpos.line) = true := by rfl)
    (hb : ∀ j, attributeBase (.Name x p) "pop" (Xf j).env (eval (.Name x p) (Xf j).env) = eval (.Name x p) (Xf j).env := by intro _; rfl)
    (hs : ∀ l, swapsWithSole [tge] (.Call (.Attribute (.Name x p) "pop" apos) [] [] cpos) pos.line (Xf l).env = pure false := by intro _; rfl) (hw : ∀ l, swappedStores [tge] (.Call (.Attribute (.Name x p) "pop" apos) [] [] cpos) (Xf l).env = pure none := by intro _; rfl)
    (ho : ∀ l, (assignEach [tge] (Xf l).env).map (·.2) = [assign tge (Xf l).env] := by intro _; rfl) :
    SS g W Xf (.Assign [tge] (.Call (.Attribute (.Name x p) "pop" apos) [] [] cpos) pos) (sPop i tg) := by
  obtain ⟨gt, g1, g2⟩ := hg
  refine ⟨tAsg (tBM0 g.wd.K "list" rPop (tVar i)) gt, fun l => ps_asg (F.K l ▸ pe_bm0 PySem.F.plainAttrs_list PySem.F.slot_list_pop PySem.F.type_list_pop mt_pop (pe_var (hN l) (hv l) hd hcd) (hb l) hline) (g1 l) (hs l) (hw l) (ho l), fun G0 H0 G σ H δ S fl δ' S' D s e k1 k2 k3 => ?_⟩
  unfold sPop at e
  split at e
  · rename_i xs hi
    obtain ⟨a, vs, ha, hal, r, nf, nm, n0⟩ := s.own i xs hi
    split at e
    · rename_i y hy
      split at e
      · rename_i ps hps
        cases e
        obtain ⟨v, hv', rv⟩ := r.getD hy
        rw [← r.length] at hv'
        obtain ⟨s2, kp2⟩ := s.updOwn (vs' := vs.dropLast) (xs' := xs.dropLast) hi ha hal (rp_dropLast r)
        refine ⟨.ref a, ha, .inl ⟨rfl, vs, .inl (.inl hal)⟩, a, vs, v, rfl, rfl, hal, hv', ?_⟩
        exact g2 G.F _ σ v y ps _ (kp2.rp rv) hps fun ws hws => k1 rfl G _ _ (setV_length ws σ) (s2.setAll hws) kp2
      · cases e
    · cases e
  · cases e
/-! ### for -/
def forGo (tg : Tg) (body : SemS) : List PyData → SemS
  | [], δ, S => some (.nx, δ, S)
  | x :: r, δ, S => match tg.split x with
    | none => none
    | some ps => match body (setD δ ps) S with
      | some (.nx, δ1, S1) => forGo tg body r δ1 S1
      | r => r
def sFor (it : SemI) (tg : Tg) (body : SemS) : SemS := fun δ S => match it δ S with
  | some (.ok items, S1) => forGo tg body items δ S1
  | some (.error c, S1) => some (.ex c, δ, S1)
  | none => none
theorem rd_for {wd : Wd} {wi : TI} {gt : TG} {tb : TS} {it : SemI} {tg : Tg} {body : SemS} (hi : RdI wd W wi it) (hg : TgOk gt tg) (hb : RdS wd W tb body) : RdS wd W (tFor wi gt tb) (sFor it tg body) := fun G0 H0 G σ H δ S fl δ' S' D s e k1 k2 k3 => by
  unfold sFor at e
  split at e
  · rename_i items S1 h1
    refine hi G σ H δ S _ S1 _ s.st0 h1 (fun items' ei J G1 H1 gr1 wk => ?_) (fun c z => nomatch z)
    cases ei
    have s1 := s.grow gr1
    have kp1 := gr1.kp s.ok
    refine ⟨fun i m σc Hc => ∃ (Gc : Gh) (δc : En) (Sc : Sto), m = items.length - i ∧ i ≤ items.length ∧ σc.length = σ.length ∧ StJ wd G0 H0 Gc σc Hc δc Sc ∧ Keep G1 H1 Gc Hc ∧ forGo tg body (items.drop i) δc Sc = some (fl, δ', S'),
      ⟨items.length, G1, δ, S1, by simp, Nat.zero_le _, rfl, s1, Keep.refl, by simpa using e⟩, ?_⟩
    rintro i m σc Hc ⟨Gc, δc, Sc, rfl, hi', hlen, sc, kpc, hgo⟩
    have wkc := wk Gc Hc Sc kpc sc.ok
    by_cases hlt : i < items.length
    · obtain ⟨d, hd⟩ : ∃ d, items[i]? = some d := ⟨_, List.getElem?_eq_getElem hlt⟩
      have hdrop : items.drop i = d :: items.drop (i + 1) := by
        rw [List.drop_eq_getElem_cons hlt]
        rw [List.getElem?_eq_getElem hlt] at hd
        cases hd
        rfl
      obtain ⟨hgo1, hyl⟩ := wkc.2 i d hd
      refine .inr ⟨hgo1, fun σn Hn => ∃ (Gc : Gh) (δc : En) (Sc : Sto), σn.length = σ.length ∧ StJ wd G0 H0 Gc σn Hn δc Sc ∧ Keep G1 H1 Gc Hn ∧ forGo tg body (items.drop (i + 1)) δc Sc = some (fl, δ', S'),
        fun σn Hn ⟨Gn, δn, Sn, a1, a2, a3, a4⟩ => ⟨items.length - (i + 1), by omega, Gn, δn, Sn, rfl, hlt, a1, a2, a3, a4⟩, fun x H2 y => ?_⟩
      obtain ⟨gr2, rx⟩ := hyl x H2 y
      have s2 := sc.grow gr2
      have kp2 := gr2.kp sc.ok
      rw [hdrop] at hgo
      unfold forGo at hgo
      split at hgo
      · cases hgo
      · rename_i ps hps
        refine hg Gc.F H2 σc x d ps _ rx hps fun ws hws => ?_
        have s3 := s2.setAll hws
        have l3 : (setV σc ws).length = σ.length := (setV_length ws σc).trans hlen
        split at hgo
        · rename_i δ1 S2 hbd
          refine hb G0 H0 Gc _ H2 _ Sc _ δ1 S2 _ s3 hbd (fun _ G4 σ4 H4 l4 s4 kp4 => ?_) (fun u z => nomatch z) (fun c z => nomatch z)
          exact ⟨G4, δ1, S2, l4.trans l3, s4, (kpc.trans kp2).trans kp4, hgo⟩
        · rename_i hne
          refine hb G0 H0 Gc _ H2 _ Sc fl δ' S' _ s3 hgo (fun z => ?_) k2 (fun c z σ4 G4 H4 l4 gr => k3 c z σ4 G4 H4 (l4.trans l3) gr)
          subst z
          exact absurd hgo (hne δ' S')
    · have hi2 : i = items.length := by omega
      subst hi2
      rw [List.drop_length] at hgo
      cases hgo
      exact .inl ⟨wkc.1 _ (Nat.le_refl _), k1 rfl Gc σc Hc hlen sc (kp1.trans kpc)⟩
  · rename_i c S1 h1
    cases e
    refine hi G σ H δ S _ _ _ s.st0 h1 (fun _ z => nomatch z) (fun c' z G' H' gr => ?_)
    cases z
    exact k3 c rfl σ G' H' rfl (s.fr.trans gr)
  · cases e
theorem ss_for {tge iter : Expr} {body : List Stmt} {it : SemI} {tg : Tg} {fb : SemS} {pos : Pos} (F : Fm g W k Xf) (hi : SI g W Xf tge iter it) (hg : SG g Xf tge tg) (hb : SSs g W Xf body fb) (hs : ∀ i x, foldedSetIterable iter (Xf i).env x = pure x := by intro _ _; rfl) :
    SS g W Xf (.For tge iter body [] pos) (sFor it tg fb) := by
  obtain ⟨wi, i1, i2⟩ := hi
  obtain ⟨gt, g1, g2⟩ := hg
  obtain ⟨tb, b1, b2⟩ := hb
  exact ⟨tFor wi gt tb, fun l => ps_for (F.pown l) (F.calm l) (i1 l) (g1 l) (b1 l) (hs l), rd_for i2 g2 b2⟩
/-! ### while -/
def whGo (c : SemT) (body : SemS) : Nat → SemS
  | 0, _, _ => none
  | n + 1, δ, S => match c (bor δ) S with
    | some (.ok true, S1) => (match body δ S1 with
      | some (.nx, δ2, S2) => whGo c body n δ2 S2
      | r => r)
    | some (.ok false, S1) => some (.nx, δ, S1)
    | some (.error e, S1) => some (.ex e, δ, S1)
    | none => none
theorem ss_while (n : Nat) {ce : Expr} {body : List Stmt} {c : SemT} {fb : SemS} {pos : Pos} (F : Fm g W k Xf) (hc : ST g W Xf ce c) (hb : SSs g W Xf body fb) : SS g W Xf (.While ce body [] pos) (whGo c fb n) := by
  obtain ⟨tc, c1, c2⟩ := hc
  obtain ⟨tb, b1, b2⟩ := hb
  refine ⟨tWhile tc tb, fun l => ps_while (F.pown l) (c1 l) (b1 l), fun G0 H0 G σ H δ S fl δ' S' D s e k1 k2 k3 => ?_⟩
  refine ⟨fun m σc Hc => ∃ (Gc : Gh) (δc : En) (Sc : Sto), σc.length = σ.length ∧ StJ g.wd G0 H0 Gc σc Hc δc Sc ∧ Keep G H Gc Hc ∧ whGo c fb m δc Sc = some (fl, δ', S'), ⟨n, G, δ, S, rfl, s, Keep.refl, e⟩, ?_⟩
  rintro m σc Hc ⟨Gc, δc, Sc, hlen, sc, kpc, hgo⟩
  cases m with
  | zero => cases hgo
  | succ m =>
    unfold whGo at hgo
    split at hgo
    · rename_i S1 ht
      refine evT c2 sc ht (fun b eb G1 H1 s1 kp1 => ?_) (fun c z => nomatch z)
      cases eb
      rw [if_pos rfl]
      refine ⟨fun σn Hn => ∃ (Gc : Gh) (δc : En) (Sc : Sto), σn.length = σ.length ∧ StJ g.wd G0 H0 Gc σn Hn δc Sc ∧ Keep G H Gc Hn ∧ whGo c fb m δc Sc = some (fl, δ', S'), fun σn Hn h => ⟨m, Nat.lt_succ_self m, h⟩, ?_⟩
      split at hgo
      · rename_i δ2 S2 hbd
        refine b2 G0 H0 G1 σc H1 δc S1 _ δ2 S2 _ s1 hbd (fun _ G4 σ4 H4 l4 s4 kp4 => ?_) (fun u z => nomatch z) (fun c z => nomatch z)
        exact ⟨G4, δ2, S2, l4.trans hlen, s4, (kpc.trans kp1).trans kp4, hgo⟩
      · rename_i hne
        refine b2 G0 H0 G1 σc H1 δc S1 fl δ' S' _ s1 hgo (fun z => ?_) k2 (fun c z σ4 G4 H4 l4 gr => k3 c z σ4 G4 H4 (l4.trans hlen) gr)
        subst z
        exact absurd hgo (hne δ' S')
    · rename_i S1 ht
      cases hgo
      refine evT c2 sc ht (fun b eb G1 H1 s1 kp1 => ?_) (fun c z => nomatch z)
      cases eb
      rw [if_neg Bool.false_ne_true]
      exact k1 rfl G1 σc H1 hlen s1 (kpc.trans kp1)
    · rename_i er S1 ht
      cases hgo
      refine evT c2 sc ht (fun b eb => nomatch eb) (fun c' z G' H' gr => ?_)
      cases z
      exact k3 er rfl σc G' H' hlen gr
    · cases hgo
/-! ### raise X('..') -/
structure ExcF (g : Gb) (c : Nat) (x : Str) (bm : List Value) : Prop where
  gC : g.mg x = some (.ref (g.wd.ca c))
  q : PySem.W.excIn g.wd.K (g.wd.ca c) bm "ValueError.__new__" = true
  kC : PySem.W.keepIn g.wd.K (.ref (g.wd.ca c)) = true
  sub : PySem.W.subIn g.wd.K (.ref (g.wd.ca c)) (.type "BaseException") = some true
  ty : PySem.W.typeIn g.wd.K (.ref (g.wd.ca c)) = some (.type "type")
def sRaise (c : Nat) : SemS := fun δ S => some (.ex c, δ, S)
theorem ss_raise (c : Nat) {x m : Str} {j : Nat} {bm : List Value} {initId B : String} {p p2 pos pos2 : Pos} (F : Fm g W k Xf) (E : ExcF g c x bm) (Fb : ExcBaseFacts B "ValueError.__new__" initId bm) (hg : ∀ i, Gl (Xf i) x := by intro _; rfl) (hdb : (x == ("__debug__" : Str)) = false := by decide) :
    SS g W Xf (.Raise (some (.Call (.Name x p) [.Constant (.str m) j p2] [] pos)) none pos2) (sRaise c) := by
  refine ⟨fun _ σ H => W (.ref (g.wd.ca c)) none σ H, fun i => ?_, fun G0 H0 G σ H δ S fl δ' S' D s e k1 k2 k3 => ?_⟩
  · exact ps_raise (F.calm i) (F.takes i) (pmk_own Fb (by rw [F.K i]; exact E.q) (by rw [F.mg i]; exact E.gC) (by rw [F.K i]; exact E.kC) (raises_own (by rw [F.K i]; exact E.sub) (by rw [F.K i]; exact E.ty)) (hg i) hdb)
  · unfold sRaise at e
    cases e
    exact k3 c rfl σ G H rfl s.fr
/-! ### defs -/
abbrev SemF := List U → Sto → Rs U
/-- what a def promises -/
def spD (wd : Wd) (np : Nat) (m : SemF) : Sp := fun vs H Q E => ∃ (G : Gh) (us : List U) (S : Sto) (r : Except Nat U) (S' : Sto), us.length = np ∧ GOk wd G H S ∧ RpUs wd G H vs us ∧ m us S = some (r, S') ∧
  (∀ u, r = .ok u → ∀ v G' H', Grow wd G H G' H' S' → RpU wd G' H' v u → Q v H') ∧ (∀ c, r = .error c → ∀ G' H', Grow wd G H G' H' S' → E (.ref (wd.ca c)) none H')
theorem rpUs_len {wd : Wd} {G : Gh} {H : Hp} : ∀ {vs : List V} {us : List U}, RpUs wd G H vs us → vs.length = us.length
  | _, _, .nil => rfl
  | _, _, .cons _ t => by rw [List.length_cons, List.length_cons, rpUs_len t]
theorem rpUs_get {wd : Wd} {G : Gh} {H : Hp} : ∀ {vs : List V} {us : List U} {i : Nat} {u : U}, RpUs wd G H vs us → us[i]? = some u → ∃ v, vs[i]? = some v ∧ RpU wd G H v u
  | _, _, _, _, .nil, e => by simp at e
  | _, _, 0, _, .cons h _, e => by
    simp at e
    subst e
    exact ⟨_, rfl, h⟩
  | _, _, i + 1, _, .cons _ t, e => by
    obtain ⟨v, e1, r⟩ := rpUs_get (i := i) t (by simpa using e)
    exact ⟨v, by simpa using e1, r⟩
def startE (n : Nat) (us : List U) : En := us.map (fun u => some (Cell.u u)) ++ List.replicate (n - us.length) none
/-- a def's meaning by its body's -/
def fnSem (n : Nat) (body : SemS) : SemF := fun us S => match body (startE n us) S with
  | some (.nx, _, S') => some (.ok (.d .none), S')
  | some (.rt u, _, S') => some (.ok u, S')
  | some (.ex c, _, S') => some (.error c, S')
  | none => none
/-- a def that is known by its meaning -/
structure Fk (g : Gb) (j : Nat) (x : Str) (np : Nat) (m : SemF) : Prop where
  ex : ∃ (f : Addr) (fd : FuncData) (ps : List Str), ps.length = np ∧ FnOk g.P g.w g.wd.K g.mg g.base (L2.CX g.P g.w) j f fd ps (spD g.wd np m) ∧ g.mg x = some (.ref f) ∧ PySem.W.keepIn g.wd.K (.ref f) = true ∧ Binds g.wd.K fd ps []
/-- a body's reading gives what the def promises -/
theorem fn_rd {np : Nat} {N : List Str} {body : SemS} {t : TS} {vs : List V} {H : Hp} {Q : VK} {E : XK} (q1 : RdS g.wd (fun cls d _ H => E cls d H) t body) (h : spD g.wd np (fnSem N.length body) vs H Q E) : t { nx := fun _ H' => Q .non H', rt := Q } (L2.start N vs) H := by
  obtain ⟨G, us, S, r, S', hl, ok, rv, e, k1, k2⟩ := h
  have hlv := rpUs_len rv
  have sj : StJ g.wd G H G (L2.start N vs) H (startE N.length us) S := by
    refine ⟨ok.fresh, Grow.refl ok, fun i u ei => ?_, fun i xs ei => ?_, fun i l xs ys a ei => ?_, ?_, ⟨fun i ks ei => ?_, fun i l k1 k2 a ei => ?_⟩⟩
    · unfold startE at ei
      by_cases hi : i < us.length
      · rw [List.getElem?_append_left (by simpa using hi), List.getElem?_map] at ei
        cases hu : us[i]? with
        | none => rw [hu] at ei; cases ei
        | some w =>
          rw [hu] at ei
          cases ei
          obtain ⟨v, e1, r1⟩ := rpUs_get rv hu
          refine ⟨v, ?_, r1⟩
          unfold L2.start
          rw [List.getElem?_append_left (by rw [List.length_map, hlv]; exact hi), List.getElem?_map, e1]
          rfl
      · rw [List.getElem?_append_right (by simpa using hi), List.getElem?_replicate] at ei
        split at ei <;> cases ei
    · exfalso
      unfold startE at ei
      by_cases hi : i < us.length
      · rw [List.getElem?_append_left (by simpa using hi), List.getElem?_map] at ei
        cases hu : us[i]? with
        | none => rw [hu] at ei; cases ei
        | some w => rw [hu] at ei; cases ei
      · rw [List.getElem?_append_right (by simpa using hi), List.getElem?_replicate] at ei
        split at ei <;> cases ei
    · exfalso
      unfold startE at ei
      by_cases hi : i < us.length
      · rw [List.getElem?_append_left (by simpa using hi), List.getElem?_map] at ei
        cases hu : us[i]? with
        | none => rw [hu] at ei; cases ei
        | some w => rw [hu] at ei; cases ei
      · rw [List.getElem?_append_right (by simpa using hi), List.getElem?_replicate] at ei
        split at ei <;> cases ei
    · unfold startE L2.start
      simp only [List.length_append, List.length_map, List.length_replicate]
      omega
    · exfalso
      unfold startE at ei
      by_cases hi : i < us.length
      · rw [List.getElem?_append_left (by simpa using hi), List.getElem?_map] at ei
        cases hu : us[i]? with
        | none => rw [hu] at ei; cases ei
        | some w => rw [hu] at ei; cases ei
      · rw [List.getElem?_append_right (by simpa using hi), List.getElem?_replicate] at ei
        split at ei <;> cases ei
    · exfalso
      unfold startE at ei
      by_cases hi : i < us.length
      · rw [List.getElem?_append_left (by simpa using hi), List.getElem?_map] at ei
        cases hu : us[i]? with
        | none => rw [hu] at ei; cases ei
        | some w => rw [hu] at ei; cases ei
      · rw [List.getElem?_append_right (by simpa using hi), List.getElem?_replicate] at ei
        split at ei <;> cases ei
  unfold fnSem at e
  split at e
  · rename_i δ1 S1 hbd'
    cases e
    exact q1 G H G _ H _ S _ δ1 _ _ sj hbd' (fun _ G1 σ1 H1 l1 s1 kp1 => k1 _ rfl .non G1 H1 s1.fr .non) (fun u z => nomatch z) (fun c z => nomatch z)
  · rename_i u δ1 S1 hbd'
    cases e
    refine q1 G H G _ H _ S _ δ1 _ _ sj hbd' (fun z => nomatch z) (fun u' z v G1 H1 gr r1 => ?_) (fun c z => nomatch z)
    cases z
    exact k1 _ rfl v G1 H1 gr r1
  · rename_i c δ1 S1 hbd'
    cases e
    refine q1 G H G _ H _ S _ δ1 _ _ sj hbd' (fun z => nomatch z) (fun u' z => nomatch z) (fun c' z σ1 G1 H1 l1 gr => ?_)
    cases z
    exact k2 c rfl G1 H1 gr
  · cases e
theorem fn_mk {j : Nat} {x : Str} {st : Stmt} {f : Addr} {fd : FuncData} {N ps : List Str} {body : SemS} (F : Fun g.wd.K x x st f fd) (hS : FnScope N ps (defScope st))
    (hb : ∀ (cdv : Value) (A : Around) (outer : List Env) (s : Shared) (H : Hp) (E : XK), Fm g (fun cls d _ H => E cls d H) j (fun _ : Unit => cxOf (L2.CX g.P g.w) g.P g.w g.wd.K g.mg g.base N x (defScope st) f cdv A outer s H E) →
      SSs g (fun cls d _ H => E cls d H) (fun _ : Unit => cxOf (L2.CX g.P g.w) g.P g.w g.wd.K g.mg g.base N x (defScope st) f cdv A outer s H E) (defBody st) body) :
    FnOk g.P g.w g.wd.K g.mg g.base (L2.CX g.P g.w) (j + 1) f fd ps (spD g.wd ps.length (fnSem N.length body)) := by
  refine F.okX hS (fun vs H Q E h => ?_) (fun cdv A outer s H vs Q E hr h => ?_)
  · obtain ⟨G, us, S, r, S', hl, _, rv, _⟩ := h
    rw [rpUs_len rv, hl]
  · obtain ⟨G, us, S, r, S', hl, ok, rv, e, k1, k2⟩ := h
    have FM : Fm g (fun cls d _ H => E cls d H) j (fun _ : Unit => cxOf (L2.CX g.P g.w) g.P g.w g.wd.K g.mg g.base N x (defScope st) f cdv A outer s H E) :=
      ⟨fun _ => rfl, fun _ => rfl, fun _ => rfl, fun _ => rfl, fun _ => rfl, fun _ => rfl, fun _ => hr, fun _ => takes_of rfl rfl rfl rfl, fun _ => hS.nd, fun _ => passes_of rfl⟩
    obtain ⟨t, p1, q1⟩ := hb cdv A outer s H E FM
    exact ⟨t, p1 (), fn_rd q1 ⟨G, us, S, r, S', hl, ok, rv, e, k1, k2⟩⟩
theorem fk_mk {j : Nat} {x : Str} {st : Stmt} {f : Addr} {fd : FuncData} {N ps : List Str} {body : SemS} (F : Fun g.wd.K x x st f fd) (hm : g.mg x = some (.ref f)) (hS : FnScope N ps (defScope st)) (hbd : Binds g.wd.K fd ps [])
    (hb : ∀ (cdv : Value) (A : Around) (outer : List Env) (s : Shared) (H : Hp) (E : XK), Fm g (fun cls d _ H => E cls d H) j (fun _ : Unit => cxOf (L2.CX g.P g.w) g.P g.w g.wd.K g.mg g.base N x (defScope st) f cdv A outer s H E) →
      SSs g (fun cls d _ H => E cls d H) (fun _ : Unit => cxOf (L2.CX g.P g.w) g.P g.w g.wd.K g.mg g.base N x (defScope st) f cdv A outer s H E) (defBody st) body) :
    Fk g (j + 1) x ps.length (fnSem N.length body) := ⟨f, fd, ps, rfl, fn_mk F hS hb, hm, F.kp, hbd⟩
/-! ### calls of defs -/
def eCall (m : SemF) (np : Nat) (a : SemA) : SemE := fun δ S => bnd (a δ S) fun us S => if us.length = np then m us S else none
theorem rd_call {wd : Wd} {np : Nat} {m : SemF} {t : TA} {a : SemA} (ha : RdA wd W t a) : RdE wd W (tCallS (spD wd np m) (WE W) t) (eCall m np a) := fun G σ H δ S z S' Q s0 e k1 k2 => by
  rcases bnd_some e with ⟨us, S1, ea, e2⟩ | ⟨c, ec, ez⟩
  · refine ha G σ H δ S _ S1 _ s0 ea (fun x ex vs G1 H1 gr1 rv => ?_) (fun c ec => nomatch ec)
    cases ex
    split at e2
    · rename_i hl
      exact ⟨G1, us, S1, z, S', hl, gr1.ok, rv, e2, fun u eu v G2 H2 gr2 r2 => k1 u eu v G2 H2 (gr1.trans gr2) r2, fun c ec G2 H2 gr2 => k2 c ec G2 H2 (gr1.trans gr2)⟩
    · cases e2
  · subst ez
    refine ha G σ H δ S _ S' _ s0 ec (fun xs exs => nomatch exs) (fun c' ec' G2 H2 gr2 => ?_)
    cases ec'
    exact k2 c rfl G2 H2 gr2
theorem se_call {j : Nat} {x : Str} {np : Nat} {m : SemF} {e : Expr} {es : List Expr} {a : SemA} {p pos : Pos} (F : Fm g W k Xf) (D : Fk g j x np m) (ha : SA g W Xf (e :: es) a) (hj : j ≤ k := by decide) (hg : ∀ i, Gl (Xf i) x := by intro _; rfl) (hdb : (x == ("__debug__" : Str)) = false := by decide)
    (he : ∀ i, starEach (e :: es) (Xf i).env = (false, eval e (Xf i).env) :: starEach es (Xf i).env := by intro _; rfl) (hpl : ∀ i, (backTo pos (starEach es (Xf i).env)).any (·.1) = false := by intro _; rfl) :
    SE g W Xf (.Call (.Name x p) (e :: es) [] pos) (eCall m np a) := by
  obtain ⟨f, fd, ps, hl, FO, hm, hk, hb⟩ := D.ex
  obtain ⟨t, p1, q1⟩ := ha
  refine ⟨tCallS (spD g.wd np m) (WE W) t, fun i => ?_, rd_call q1⟩
  have FO' : FnOk (Xf i).prog (Xf i).w (Xf i).K (Xf i).mg (Xf i).base (L2.CX (Xf i).prog (Xf i).w) j f fd ps (spD g.wd np m) := by
    rw [F.prog i, F.w i, F.K i, F.mg i, F.base i]
    exact FO
  exact pe_callS FO' ((F.room i).mono hj) (hg i) (by rw [F.mg i]; exact hm) (by rw [F.K i]; exact hk) (by rw [F.K i]; exact hb) (fun σ => passAt (F.takes i) σ) (p1 i) hdb (he i) (hpl i)
end
end DL
set_option maxHeartbeats 1000000
/-! The data layer: the script and the law's list of draws. -/
namespace DL
open PySem L2 PySem.W PySem.SeqAt
theorem scr_sq {wd : Wd} {G : Gh} {H : Hp} {S : Sto} (ok : GOk wd G H S) : SqL wd.K H wd.sa (wd.ns.map V.int) := by
  rcases ok.scr with ⟨o, h⟩ | h
  · exact .inl (.inr ⟨o, h⟩)
  · rcases h with (h | ⟨o, h⟩) | h
    · cases h
    · cases h
    · exact .inr h
def scD (ns : List Int) : PyData := .list (ns.map .int)
theorem scr_dp {wd : Wd} {G : Gh} {H : Hp} {S : Sto} (ok : GOk wd G H S) : Dp wd.K H (.ref wd.sa) (scD wd.ns) := by
  refine .lst (scr_sq ok) ?_
  have : ∀ ns : List Int, DpAll wd.K H (ns.map V.int) (ns.map PyData.int) := by
    intro ns
    induction ns with
    | nil => exact .nil
    | cons n ns ih => exact .cons (.int n) ih
  exact this _
section
variable {g : Gb} {W : WX} {ι : Type} {Xf : ι → Cx} {k : Nat}
/-! ### the script read -/
def oLenS (ns : List Int) : List U → Option U
  | [.sc] => some (.d (.int ns.length))
  | _ => none
theorem ok_lenS (F : Fm g W k Xf) : CallOk g Xf (.builtin "len") (oLenS g.wd.ns) := by
  refine ⟨fun xs H Q => ∃ p ys, xs = [.ref p] ∧ (SqL g.wd.K H p ys ∨ SqT g.wd.K H p ys) ∧ Q (.int ys.length) H, fun i => F.K i ▸ call_len_seq, fun G H S vs us z Q ok rv e k => ?_⟩
  unfold oLenS at e
  split at e
  · cases e
    obtain ⟨v, rfl, h⟩ := rpUs1 rv
    cases h
    exact ⟨_, _, rfl, .inl (scr_sq ok), by rw [List.length_map]; exact k _ G H (Grow.refl ok) (.int _)⟩
  · cases e
def oIxS (ns : List Int) : U → U → Option U
  | .sc, .d (.int i) => match atI ns i with
    | some x => some (.d (.int x))
    | none => none
  | _, _ => none
theorem atI_map {ns : List Int} {i x : Int} (h : atI ns i = some x) : atI (ns.map V.int) i = some (.int x) := by
  unfold atI at h ⊢
  rw [List.length_map]
  cases hj : ixN ns.length i with
  | none => rw [hj] at h; cases h
  | some j =>
    rw [hj] at h
    show (ns.map V.int)[j]? = _
    have h : ns[j]? = some x := h
    rw [List.getElem?_map, h]
    rfl
theorem rdO_ixS {wd : Wd} : RdO wd (rIx wd.K) (oIxS wd.ns) := fun G H S x y u w z Q ok rx ry e k => by
  unfold oIxS at e
  split at e
  · split at e
    · rename_i hz
      cases e
      cases ry
      cases rx
      exact .inl ⟨_, _, _, _, rfl, rfl, scr_sq ok, atI_map hz, k _ G H (Grow.refl ok) (.int _)⟩
    · cases e
  · cases e
theorem se_ixS {a b : Expr} {f h : SemE} {pos : Pos} (F : Fm g W k Xf) (ha : SE g W Xf a f) (hb : SE g W Xf b h) (hs : PlainIx b := by exact fun _ _ => rfl) : SE g W Xf (.Subscript a b pos) (eOp (oIxS g.wd.ns) f h) := by
  obtain ⟨t, p1, q1⟩ := ha
  obtain ⟨u, p2, q2⟩ := hb
  exact ⟨tOp (rIx g.wd.K) t u, fun i => pe_ix (F.K i ▸ ix_seq) (p1 i) (p2 i) hs, rd_op rdO_ixS q1 q2⟩
def cEqS (ns : List Int) : U → U → Option U
  | .sc, .d y => match eqP (scD ns) y with
    | some b => some (.d (.bool b))
    | none => none
  | _, _ => none
theorem ok_eqS (F : Fm g W k Xf) : OpOk g Xf (compareOp .Eq) (cEqS g.wd.ns) := by
  refine ⟨_, fun i => F.K i ▸ opr_eq (F.room i), fun G H S x y u w z Q ok rx ry e k => ?_⟩
  unfold cEqS at e
  split at e
  · split at e
    · rename_i b hb
      cases e
      cases rx
      exact ⟨_, _, b, scr_dp ok, Rp.dp _ _ _ ry, hb, k _ G H (Grow.refl ok) (.bl b)⟩
    · cases e
  · cases e
/-! ### the town -/
def eLenTw (i : Nat) : SemE := fun δ S => match δ[i]?, S.tw with
  | some (some (.u .tw)), some n => some (.ok (.d (.int n)), S)
  | _, _ => none
theorem se_lenTw (i : Nat) {x : Str} {p p2 pos : Pos} (F : Fm g W k Xf) (hm : g.mg "len" = none) (hN : ∀ j, (Xf j).N[i]? = some x := by intro _; rfl)
    (hv : ∀ j, Vis (Xf j).env.scope x := by first | exact fun _ => Or.inl rfl | exact fun _ => Or.inr (Or.inl rfl) | exact fun _ => Or.inr (Or.inr rfl)) (hd : (x == ("__debug__" : Str)) = false := by decide) (hcd : (x == ("__classdict__" : Str)) = false := by decide)
    (hg : ∀ i, Gl (Xf i) "len" := by intro _; rfl) : SE g W Xf (.Call (.Name "len" p) [.Name x p2] [] pos) (eLenTw i) := by
  refine ⟨tCB (fun xs H Q => ∃ p ys, xs = [.ref p] ∧ (SqL g.wd.K H p ys ∨ SqT g.wd.K H p ys) ∧ Q (.int ys.length) H) (tCons (tVar i) tNil), fun j => ?_, fun G σ H δ S z S' Q s0 e k1 k2 => ?_⟩
  · exact pe_callB (F.K j ▸ call_len_seq) (hg j) (by rw [F.mg j]; exact hm) PySem.boot_len (pa_cons (pe_var (hN j) (hv j) hd hcd) pa_nil)
  · unfold eLenTw at e
    split at e
    · rename_i n hi hn
      cases e
      obtain ⟨v, hv', a, ha, rfl⟩ := s0.at_ i .tw hi
      obtain ⟨xs, hx, hl⟩ := s0.ok.town a ha
      rw [hn] at hl
      cases hl
      exact ⟨.ref a, hv', a, xs, rfl, .inl (.inl (.inl hx)), k1 _ rfl _ G H (Grow.refl s0.ok) (.int _)⟩
    · cases e
/-- town.append(0): one draw more -/
def sTwApp (i : Nat) : SemS := fun δ S => match δ[i]?, S.tw with
  | some (some (.u .tw)), some n => if n < LIM then some (.nx, δ, { S with tw := some (n + 1) }) else none
  | _, _ => none
theorem grow_town {wd : Wd} {G : Gh} {H : Hp} {S : Sto} {a : Addr} {xs ys : List V} (ok : GOk wd G H S) (ha : G.ta = some a) (hx : H a = some (.lst xs)) (n : Nat) (hn : ys.length = n) : Grow wd G H G (upd H a (.lst ys)) { S with tw := some n } := by
  have ne : ∀ b o, H b = some o → b ≠ a → upd H a (.lst ys) b = some o := fun b o e n => by rw [upd_ne n]; exact e
  have mF : ¬ G.F a := ok.mF a (.inl ha)
  have nT : ∀ b zs, H b = some (.tup zs) → upd H a (.lst ys) b = some (.tup zs) := fun b zs e => ne b _ e (fun z => by rw [z, hx] at e; cases e)
  refine ⟨⟨fun p hp => ok.fresh p ?_, ok.mF, fun b hb => ?_, (fun z => nomatch z), ok.olen, fun k t og h1 h2 => ?_, ok.nd1, ok.nd2, ok.ndt, ?_⟩, fun _ h => h, fun _ _ _ h => h, fun b o h m => ne b o h (fun z => m (z ▸ .inl ha)), fun _ h => .inl h, fun b o h => ?_, fun _ h => h, fun _ t h => ⟨t.2, h⟩⟩
  · by_cases z : p = a
    · rw [z, upd_same] at hp; cases hp
    · rw [upd_ne z] at hp; exact hp
  · rw [ha] at hb
    cases hb
    exact ⟨ys, upd_same, by rw [hn]⟩
  · obtain ⟨dx, ws, e1, e2, r⟩ := ok.org k t og h1 h2
    have mt := List.mem_of_getElem? h1
    exact ⟨dx, ws, ne _ _ e1 (fun z => by rw [z, hx] at e1; cases e1), ne _ _ e2 (ok.ndt a ha t mt), RpAll.move (fun _ _ f _ => f.elim) (fun b zs r => nT b zs r) _ _ r⟩
  · rcases ok.scr with ⟨ob, e⟩ | e
    · exact .inl ⟨ob, ne _ _ e (fun z => by rw [z, hx] at e; cases e)⟩
    · exact .inr e
  · by_cases z : b = a
    · rw [z]; exact ⟨_, upd_same⟩
    · exact ⟨o, ne b o h z⟩
theorem ss_twApp (i : Nat) {x : Str} {j0 : Nat} {p p2 apos cpos pos : Pos} (F : Fm g W k Xf) (hN : ∀ j, (Xf j).N[i]? = some x := by intro _; rfl)
    (hv : ∀ j, Vis (Xf j).env.scope x := by first | exact fun _ => Or.inl rfl | exact fun _ => Or.inr (Or.inl rfl) | exact fun _ => Or.inr (Or.inr rfl)) (hd : (x == ("__debug__" : Str)) = false := by decide) (hcd : (x == ("__classdict__" : Str)) = false := by decide) (hline : (apos.endLine == cpos.line) = true := by rfl)
    (hb : ∀ j, attributeBase (.Name x p) "append" (Xf j).env (eval (.Name x p) (Xf j).env) = eval (.Name x p) (Xf j).env := by intro _; rfl) (hw : ∀ j, swapsWith (.Call (.Attribute (.Name x p) "append" apos) [.Constant (.int 0) j0 p2] [] cpos) none pos.line (Xf j).env = pure false := by intro _; rfl) :
    SS g W Xf (.Expr (.Call (.Attribute (.Name x p) "append" apos) [.Constant (.int 0) j0 p2] [] cpos) pos) (sTwApp i) := by
  refine ⟨tDrop (tBM g.wd.K "list" rAppend (tVar i) (tCons (tC (.int 0)) tNil)), ps_m1 i F PySem.F.slot_list_append PySem.F.type_list_append (fun j => mt_append) (fun _ => pe_int) hN hv hd hcd (fun _ => rfl) hline hb hw, fun G0 H0 G σ H δ S fl δ' S' D s e k1 k2 k3 => ?_⟩
  unfold sTwApp at e
  split at e
  · rename_i n hi hn
    split at e
    · rename_i hl
      cases e
      obtain ⟨v, hv', a, ha, rfl⟩ := s.at_ i .tw hi
      obtain ⟨xs, hx, hlen⟩ := s.ok.town a ha
      rw [hn] at hlen
      cases hlen
      have gr := grow_town (ys := xs ++ [V.int 0]) s.ok ha hx (xs.length + 1) (by simp)
      exact ⟨.ref a, hv', .inl ⟨rfl, xs, .inl (.inl hx)⟩, a, xs, .int 0, rfl, rfl, hx, lim_lt hl, k1 rfl G σ _ rfl (s.grow gr) (gr.kp s.ok)⟩
    · cases e
  · cases e
/-- town = [] -/
def sTown (i : Nat) : SemS := fun δ S => match S.tw with
  | none => some (.nx, δ.set i (some (.u .tw)), { S with tw := some 0 })
  | some _ => none
theorem ss_town (i : Nat) {x : Str} {pos pos' pos2 : Pos} (F : Fm g W k Xf) (hi : ∀ j, (Xf j).N[i]? = some x := by intro _; rfl) (hx : ∀ j, Loc (Xf j).env.scope x := by first | exact fun _ => Or.inl rfl | exact fun _ => Or.inr rfl)
    (hs : ∀ j, swapsWith (.List [] pos2) (some (.Name x pos')) pos.line (Xf j).env = pure false := by intro _; rfl) (hf : ∀ j, (Xf j).fn x = true ∨ (Xf j).env.scope.names.lookup x = some .local := by first | exact fun _ => Or.inl rfl | exact fun _ => Or.inr rfl) :
    SS g W Xf (.Assign [.Name x pos'] (.List [] pos2) pos) (sTown i) := by
  refine ⟨tAsg (tLst tNil) (gName i), set_ok i F (fun j => pe_lst pa_nil) hi hx hs hf, fun G0 H0 G σ H δ S fl δ' S' D s e k1 k2 k3 => ?_⟩
  unfold sTown at e
  split at e
  · rename_i hn
    cases e
    refine ⟨Nat.zero_le _, fun p hp => ?_⟩
    have hta := s.ok.townN hn
    have gn := Grow.new (o := .lst []) s.ok hp
    have ok := gn.ok
    have gr : Grow g.wd G H { G with F := fun a => G.F a ∧ a ≠ p, ta := some p } (upd H p (.lst [])) { S with tw := some 0 } := by
      have hM : ∀ a, Gh.M { G with F := fun a => G.F a ∧ a ≠ p, ta := some p } a → G.M a ∨ a = p := fun a m => by
        rcases m with m | m
        · cases m
          exact .inr rfl
        · exact .inl (.inr m)
      refine ⟨⟨fun q hq => ⟨ok.fresh q hq, fun z => by rw [z, upd_same] at hq; cases hq⟩, fun a m f => ?_, fun a ha => ?_, (fun z => nomatch z), ok.olen, ok.org, ok.nd1, ok.nd2, fun a ha t ht z => ?_, ok.scr⟩, fun a f => f.1, fun a o h f => ⟨f, ne_of_none h hp⟩, gn.same, fun a m => ?_, gn.there, fun a h => ?_, fun _ t h => ⟨t.2, h⟩⟩
      · rcases hM a m with z | z
        · exact s.ok.mF a z f.1
        · exact f.2 z
      · cases ha
        exact ⟨[], upd_same, rfl⟩
      · cases ha
        rcases s.ok.mut (a := p) (.inr ⟨t, ht, .inr z.symm⟩) with ⟨xs, e⟩ | ⟨C, dx, fs, e⟩ <;> (rw [hp] at e; cases e)
      · rcases hM a m with z | z
        · exact .inl z
        · rw [z]; exact .inr hp
      · rw [hta] at h; cases h
    exact k1 rfl _ _ _ (by simp) ((s.grow gr).setU (v := .ref p) (u := .tw) ⟨p, rfl, rfl⟩) (gr.kp s.ok)
  · cases e
end
end DL
set_option maxHeartbeats 1000000
/-! The data layer: len(set(xs)), xs a list of tuples of ints, or of ints. -/
namespace DL
open PySem L2 PySem.W PySem.SeqAt
theorem nodup_len {α : Type} [DecidableEq α] : ∀ {l m : List α}, l.Nodup → (∀ x ∈ l, x ∈ m) → l.length ≤ m.length
  | [], m, _, _ => Nat.zero_le _
  | x :: l, m, nd, h => by
    have hx := h x List.mem_cons_self
    have ih := nodup_len (l := l) (m := m.erase x) (List.nodup_cons.mp nd).2 fun y hy => by
      refine (List.mem_erase_of_ne fun e => ?_).mpr (h y (List.mem_cons_of_mem _ hy))
      subst e
      exact (List.nodup_cons.mp nd).1 hy
    rw [List.length_erase_of_mem hx] at ih
    have : 0 < m.length := List.length_pos_of_mem hx
    rw [List.length_cons]
    omega
/-- the different ones, in the order of their first coming -/
def ddp {α : Type} [DecidableEq α] (acc : List α) : List α → List α
  | [] => acc
  | x :: l => if x ∈ acc then ddp acc l else ddp (acc ++ [x]) l
theorem ddp_ok {α : Type} [DecidableEq α] : ∀ (l acc : List α), acc.Nodup → (ddp acc l).Nodup ∧ ∀ x, x ∈ ddp acc l ↔ x ∈ acc ∨ x ∈ l
  | [], acc, nd => ⟨nd, fun x => by unfold ddp; simp⟩
  | y :: l, acc, nd => by
    unfold ddp
    by_cases hy : y ∈ acc
    · rw [if_pos hy]
      obtain ⟨h1, h2⟩ := ddp_ok l acc nd
      refine ⟨h1, fun x => (h2 x).trans ?_⟩
      rw [List.mem_cons]
      refine ⟨fun h => h.imp id .inr, fun h => ?_⟩
      rcases h with h | h | h
      · exact .inl h
      · exact .inl (h ▸ hy)
      · exact .inr h
    · rw [if_neg hy]
      obtain ⟨h1, h2⟩ := ddp_ok l (acc ++ [y]) (by
        rw [List.nodup_append]
        exact ⟨nd, by simp, fun a ha b hb e => by
          simp at hb
          subst hb
          exact hy (e ▸ ha)⟩)
      refine ⟨h1, fun x => (h2 x).trans ?_⟩
      rw [List.mem_append, List.mem_singleton, List.mem_cons]
      exact ⟨fun h => by
        rcases h with (h | h) | h
        · exact .inl h
        · exact .inr (.inl h)
        · exact .inr (.inr h), fun h => by
        rcases h with h | h | h
        · exact .inl (.inl h)
        · exact .inl (.inr h)
        · exact .inr h⟩
def ndist {α : Type} [DecidableEq α] (l : List α) : Nat := (ddp [] l).length
theorem ndist_of {α : Type} [DecidableEq α] {l m : List α} (nd : m.Nodup) (h : ∀ x, x ∈ m ↔ x ∈ l) : m.length = ndist l := by
  obtain ⟨h1, h2⟩ := ddp_ok l [] List.nodup_nil
  have e : ∀ x, x ∈ ddp [] l ↔ x ∈ m := fun x => (h2 x).trans (by rw [h x]; simp)
  have a := nodup_len nd fun x hx => (e x).mpr hx
  have b := nodup_len h1 fun x hx => (e x).mp hx
  unfold ndist
  omega
theorem ndist_nodup {α : Type} [DecidableEq α] (l : List α) : ndist l = l.length ↔ l.Nodup := by
  constructor
  · intro h
    obtain ⟨h1, h2⟩ := ddp_ok l [] List.nodup_nil
    have : ∀ (l : List α), (∃ m : List α, m.Nodup ∧ m.length = l.length ∧ ∀ x ∈ m, x ∈ l) → l.Nodup := by
      intro l
      induction l with
      | nil => intro _; exact List.nodup_nil
      | cons y l ih =>
        rintro ⟨m, nm, hl, hs⟩
        have hy : y ∈ m := Classical.byContradiction fun hn => by
          have := nodup_len nm (m := l) fun x hx => by
            rcases List.mem_cons.mp (hs x hx) with e | e
            · exact absurd (e ▸ hx) hn
            · exact e
          rw [hl, List.length_cons] at this
          omega
        have nyl : y ∉ l := fun hyl => by
          have := nodup_len nm (m := l) fun x hx => by
            rcases List.mem_cons.mp (hs x hx) with e | e
            · exact e ▸ hyl
            · exact e
          rw [hl, List.length_cons] at this
          omega
        refine List.nodup_cons.mpr ⟨nyl, ih ⟨m.erase y, nm.erase y, ?_, fun x hx => ?_⟩⟩
        · rw [List.length_erase_of_mem hy, hl]; rfl
        · have := nm.mem_erase_iff.mp hx
          rcases List.mem_cons.mp (hs x this.2) with e | e
          · exact absurd e this.1
          · exact e
    exact this l ⟨ddp [] l, h1, h, fun x hx => by
      rcases (h2 x).mp hx with z | z
      · cases z
      · exact z⟩
  · intro nd
    exact (ndist_of nd fun _ => Iff.rfl).symm
def intsOf : List PyData → Option (List Int)
  | [] => some []
  | .int i :: r => match intsOf r with
    | some l => some (i :: l)
    | none => none
  | _ => none
def tupsOf : List PyData → Option (List (List Int))
  | [] => some []
  | .tuple xs :: r => (match intsOf xs, tupsOf r with
    | some l, some m => some (l :: m)
    | _, _ => none)
  | _ => none
theorem intsOf_vs {F : Addr → Prop} {H : Hp} : ∀ {ds : List PyData} {vs : List V} {l : List Int}, RpAll F H vs ds → intsOf ds = some l → vs = l.map V.int
  | [], _, _, h, e => by
    cases h
    cases e
    rfl
  | d :: ds, _, _, h, e => by
    cases h with
    | cons h t =>
      cases d with
      | int i =>
        unfold intsOf at e
        split at e
        · rename_i l hl
          cases e
          cases h
          rw [intsOf_vs t hl]
          rfl
        · cases e
      | none => cases e
      | bool _ => cases e
      | str _ => cases e
      | list _ => cases e
      | tuple _ => cases e
      | dict _ => cases e
theorem tupsOf_vs {F : Addr → Prop} {H : Hp} : ∀ {ds : List PyData} {vs : List V} {l : List (List Int)}, RpAll F H vs ds → tupsOf ds = some l → ∃ ks : List (Addr × List Int), vs = ks.map (fun p => V.ref p.1) ∧ l = ks.map (·.2) ∧ ∀ p ∈ ks, H p.1 = some (.tup (p.2.map V.int))
  | [], _, _, h, e => by
    cases h
    cases e
    exact ⟨[], rfl, rfl, fun _ h => nomatch h⟩
  | d :: ds, _, _, h, e => by
    cases h with
    | cons h t =>
      cases d with
      | tuple xs =>
        unfold tupsOf at e
        split at e
        · rename_i l m hl hm
          cases e
          cases h with
          | tup ha ra =>
            obtain ⟨ks, e1, e2, e3⟩ := tupsOf_vs t hm
            have := intsOf_vs ra hl
            subst this
            refine ⟨(_, l) :: ks, by rw [e1]; rfl, by rw [e2]; rfl, fun p hp => ?_⟩
            rcases List.mem_cons.mp hp with rfl | hp
            · exact ha
            · exact e3 p hp
        · cases e
      | none => cases e
      | bool _ => cases e
      | str _ => cases e
      | list _ => cases e
      | int _ => cases e
      | dict _ => cases e
def lenSetD (xs : List PyData) : Option Nat := if xs.length < 64 then (match tupsOf xs with
  | some l => some (ndist l)
  | none => match intsOf xs with
    | some l => some (ndist l)
    | none => none) else none
def tLenSetA (K : PySem.W.Frag) (ta : TE) : TE := fun σ H Q => ta σ H fun x H1 => ∃ (l : Addr) (n : Nat), x = .ref l ∧ ((∃ ks : List (Addr × List Int), SqL K H1 l (ks.map fun p => V.ref p.1) ∧ (∀ p ∈ ks, SqT K H1 p.1 (p.2.map V.int)) ∧ ks.length < 64 ∧ n = ndist (ks.map (·.2))) ∨
  ∃ ns : List Int, SqL K H1 l (ns.map V.int) ∧ ns.length < 64 ∧ n = ndist ns) ∧ Q (.int n) H1
theorem mem_firstMet (f : Nat → Int) : ∀ (n : Nat) (x : Int), x ∈ PyProof.Rows.firstMet f n ↔ ∃ i, i < n ∧ f i = x
  | 0, x => ⟨(fun h => nomatch h), fun ⟨_, h, _⟩ => absurd h (by omega)⟩
  | n + 1, x => by
    rw [PyProof.Rows.firstMet_succ]
    unfold PyProof.Rows.step_dedup
    have ih := mem_firstMet f n
    split
    · rename_i hc
      obtain ⟨y, hy, ey⟩ := List.any_eq_true.mp hc
      have ey : y = f n := eq_of_beq ey
      rw [ih x]
      constructor
      · rintro ⟨i, hi, e⟩; exact ⟨i, by omega, e⟩
      · rintro ⟨i, hi, e⟩
        by_cases h : i = n
        · subst h
          subst e
          rw [← ey]
          exact (ih y).mp hy
        · exact ⟨i, by omega, e⟩
    · rw [List.mem_append, ih x, List.mem_singleton]
      constructor
      · rintro (⟨i, hi, e⟩ | e)
        · exact ⟨i, by omega, e⟩
        · exact ⟨n, by omega, e.symm⟩
      · rintro ⟨i, hi, e⟩
        by_cases h : i = n
        · subst h; exact .inr e.symm
        · exact .inl ⟨i, by omega, e⟩
theorem nodup_firstMet (f : Nat → Int) : ∀ (n : Nat), (PyProof.Rows.firstMet f n).Nodup
  | 0 => List.nodup_nil
  | n + 1 => by
    rw [PyProof.Rows.firstMet_succ]
    unfold PyProof.Rows.step_dedup
    split
    · exact nodup_firstMet f n
    · rename_i hc
      rw [List.nodup_append]
      refine ⟨nodup_firstMet f n, by simp, fun a ha b hb e => ?_⟩
      simp at hb
      subst hb
      subst e
      exact hc (List.any_eq_true.mpr ⟨_, ha, by simp⟩)
theorem firstMet_ndist (ns : List Int) : (PyProof.Rows.firstMet (fun i => ns.getD i 0) ns.length).length = ndist ns := by
  refine ndist_of (nodup_firstMet _ _) fun x => ?_
  rw [mem_firstMet]
  constructor
  · rintro ⟨i, hi, e⟩
    rw [List.getD_eq_getElem?_getD, List.getElem?_eq_getElem hi] at e
    have e : ns[i] = x := e
    rw [← e]
    exact List.getElem_mem hi
  · intro h
    obtain ⟨i, hi, e⟩ := List.getElem_of_mem h
    refine ⟨i, hi, ?_⟩
    rw [List.getD_eq_getElem?_getD, List.getElem?_eq_getElem hi]
    exact e
section
variable {X : Cx} {k : Nat}
theorem pe_lenSetA {a : Expr} {ta : TE} {p p2 q pos : Pos} (hr : Room k X.A) (hc : X.calm = true) (hg : Gl X "len") (hm : X.mg "len" = none) (hg2 : Gl X "set") (hm2 : X.mg "set" = none) (ha : PE X a ta)
    (na : starEach [a] X.env = (false, eval a X.env) :: starEach [] X.env) : PE X (.Call (.Name "len" p) [.Call (.Name "set" p2) [a] [] q] [] pos) (tLenSetA X.K ta) := by
  refine ⟨fun pins s σ H Q I h => ?_⟩
  refine PyProof.Rows.Call_ (ld_blt I hg hm PySem.boot_len ?_)
  refine PyProof.Rows.callWith_builtin1 (PyProof.Rows.args_cons ?_ rfl) rfl rfl
  refine PyProof.Rows.Call_ (ld_blt I hg2 hm2 PyProof.Rows.boot_set ?_)
  refine PyProof.Rows.callWith_type1 (PyProof.Rows.args_cons (thn (ha.run pins s σ H _ I h) fun v s1 ⟨x, H1, I1, r1, q1⟩ => PyProof.Rows.args_nil ?_) na) na rfl
  obtain ⟨l, n, rfl, hcase, q1⟩ := q1
  cases r1
  rcases hcase with ⟨ks, hq, hks, h64, rfl⟩ | ⟨ns, hq, h64, rfl⟩
  · obtain ⟨its, r, pl, hz⟩ := I1.list hq
    refine call_set_tups (P := X.prog) (w := X.w) ks (I1.ok.hd hc) pl.isList (by simpa using refs_of_vals r) (fun p hp => I1.isT (hks p hp)) h64 (by have := hr.un; omega) fun h' tk L es ep t R gt kp => ?_
    refine PyProof.Rows.args_nil ?_
    have I2 : Inv X pins σ H1 { s1 with heap := h', toks := tk } := I1.kept kp
    obtain ⟨o, ho, hex, hd⟩ := R.ob
    have hsz : es.size = L.length := SetTR.size (s := { s1 with heap := h', toks := tk }) R
    have hfits : t.fits es.size = true := SetTR.fits (s := { s1 with heap := h', toks := tk }) R
    have hfew := R.few
    have hlen : L.length = ndist (ks.map (·.2)) := by
      have e := ndist_of (l := ks.map (·.2)) R.nd fun x => ⟨fun hx => ?_, fun hx => ?_⟩
      · rw [List.length_map] at e
        exact e
      · obtain ⟨p, hp, rfl⟩ := List.mem_map.mp hx
        exact List.mem_map_of_mem (List.mem_of_mem_take (gt.sub p hp))
      · obtain ⟨p, hp, rfl⟩ := List.mem_map.mp hx
        exact gt.all p (by rw [List.take_length]; exact hp)
    exact call_len_set ho hex hd hfits (by rw [hsz]; omega) ⟨.int (ndist (ks.map (·.2))), H1, I2.tok _, ⟨_, by rw [hsz, hlen]⟩, q1⟩
  · obtain ⟨its, r, pl, hz⟩ := I1.list hq
    have hl : its.toArray.size = ns.length := by rw [List.size_toArray, ← r.length, List.length_map]
    refine call_set_list (I1.ok.hd hc) pl.isList (ns := ns) (by simpa using r.ints) (by unfold scanBound; omega) fun h' tk hS hk => ?_
    rw [hl, firstMet_ndist] at hS
    refine PyProof.Rows.args_nil ?_
    obtain ⟨o, es, ep, t, ho, hex, hd, _, _, _, hf, hn⟩ := hS
    have I2 : Inv X pins σ H1 { s1 with heap := h', toks := tk } := I1.kept fun b o e => hk b o (Heap.lt_size e) e
    have hb : ndist ns ≤ ns.length := by
      rw [← firstMet_ndist]
      exact nodup_len (nodup_firstMet _ _) fun x hx => by
        obtain ⟨i, hi, e⟩ := (mem_firstMet _ _ x).mp hx
        rw [List.getD_eq_getElem?_getD, List.getElem?_eq_getElem hi] at e
        have e : ns[i] = x := e
        rw [← e]
        exact List.getElem_mem hi
    exact call_len_set ho hex hd hf (by rw [hn]; omega) ⟨.int (ndist ns), H1, I2.tok _, ⟨_, by rw [hn]⟩, q1⟩
end
def eLenSet (f : SemE) : SemE := fun δ S => bnd (f δ S) fun x S => match x with
  | .d (.list xs) => (match lenSetD xs with
    | some n => some (.ok (.d (.int n)), S)
    | none => none)
  | _ => none
section
variable {g : Gb} {W : WX} {ι : Type} {Xf : ι → Cx} {k : Nat}
theorem se_lenSet {a : Expr} {f : SemE} {p p2 q pos : Pos} (F : Fm g W k Xf) (hm : g.mg "len" = none) (hm2 : g.mg "set" = none) (ha : SE g W Xf a f) (hg : ∀ i, Gl (Xf i) "len" := by intro _; rfl) (hg2 : ∀ i, Gl (Xf i) "set" := by intro _; rfl)
    (na : ∀ i, starEach [a] (Xf i).env = (false, eval a (Xf i).env) :: starEach [] (Xf i).env := by intro _; rfl) : SE g W Xf (.Call (.Name "len" p) [.Call (.Name "set" p2) [a] [] q] [] pos) (eLenSet f) := by
  obtain ⟨t, p1, q1⟩ := ha
  refine ⟨tLenSetA g.wd.K t, fun i => F.K i ▸ pe_lenSetA (F.room i) (F.calm i) (hg i) (by rw [F.mg i]; exact hm) (hg2 i) (by rw [F.mg i]; exact hm2) (p1 i) (na i), fun G σ H δ S z S' Q s0 e k1 k2 => ?_⟩
  rcases bnd_some e with ⟨u, S1, ea, e2⟩ | ⟨c, ec, ez⟩
  · refine q1 G σ H δ S _ S1 _ s0 ea (fun x ex v G1 H1 gr1 rv => ?_) (fun c ec => nomatch ec)
    cases ex
    split at e2
    · rename_i xs
      split at e2
      · rename_i n hn
        cases e2
        cases rv with
        | lst fa ha ra =>
          refine ⟨_, n, rfl, ?_, k1 _ rfl _ G1 H1 gr1 (.int _)⟩
          unfold lenSetD at hn
          split at hn
          · rename_i h64
            split at hn
            · rename_i l hl
              cases hn
              obtain ⟨ks, e1, e2, e3⟩ := tupsOf_vs ra hl
              subst e1
              subst e2
              refine .inl ⟨ks, .inl (.inl ha), fun p hp => .inl (.inl (e3 p hp)), ?_, rfl⟩
              rw [← ra.length, List.length_map] at h64
              exact h64
            · split at hn
              · rename_i l hl
                cases hn
                have := intsOf_vs ra hl
                subst this
                refine .inr ⟨l, .inl (.inl ha), ?_, rfl⟩
                rw [← ra.length, List.length_map] at h64
                exact h64
              · cases hn
          · cases hn
      · cases e2
    · cases e2
  · subst ez
    refine q1 G σ H δ S _ S' _ s0 ec (fun xs exs => nomatch exs) (fun c' ec' G2 H2 gr2 => ?_)
    cases ec'
    exact k2 c rfl G2 H2 gr2
end
end DL
set_option maxHeartbeats 1000000
/-! The data layer: a law's end. -/
namespace DL
open PySem L2 PySem.W
def excNm : Nat → Str
  | 0 => "InvalidPlayers" | 1 => "InvalidThree" | 2 => "InvalidPlan" | 3 => "InvalidPlayer" | 4 => "InvalidFour" | 5 => "InvalidNames"
  | 6 => "NoPlan" | 7 => "NoDays" | 8 => "MetAlready" | 9 => "NothingToUndo" | _ => "ParseError"
def gAdr (K : Frag) (x : Str) : Addr := match nsIn K mainGlobals x with
  | some (some (.ref a)) => a
  | _ => 0
theorem gAdr_eq {K : Frag} {x : Str} {C : Addr} (h : nsIn K mainGlobals x = some (some (.ref C))) : gAdr K x = C := by
  unfold gAdr
  rw [h]
def wdOf (K : Frag) (sa : Addr) (ns : List Int) : Wd := ⟨K, fun c => gAdr K (excNm c), gAdr K "Organizer", sa, ns, 0, 0⟩
def DefIn (K : Frag) (x : Str) (st : Stmt) : Prop := ∃ (f : Addr) (oc : Value) (od an : Option Addr) (osl : Array (Option Value)) (kV doc pm cdv ct : Value),
  nsIn K mainGlobals x = some (some (.ref f)) ∧ K.lookup f = some ⟨oc, od, .func (PySem.W.fnOf x x (defArgs st) (defBody st) (defScope st) .none kV doc pm an cdv ct), osl⟩ ∧ PySem.W.codeIn K cdv x = true ∧ PySem.W.keepIn K (.ref f) = true
theorem defIn {K : Frag} {x : Str} {st : Stmt} {f : Addr} {oc : Value} {od an : Option Addr} {osl : Array (Option Value)} {kV doc pm cdv ct : Value} (a : nsIn K mainGlobals x = some (some (.ref f))) (l : K.lookup f = some ⟨oc, od, .func (PySem.W.fnOf x x (defArgs st) (defBody st) (defScope st) .none kV doc pm an cdv ct), osl⟩)
    (c : PySem.W.codeIn K cdv x = true) (k : PySem.W.keepIn K (.ref f) = true) : DefIn K x st := ⟨f, oc, od, an, osl, kV, doc, pm, cdv, ct, a, l, c, k⟩
theorem DefIn.top {K : Frag} {h : Heap} {mg : Str → Option Value} {x : Str} {st : Stmt} (D : DefIn K x st) (X : K.In h) (G : h.Ns mainGlobals mg) : ∃ f fd, Fun K x x st f fd ∧ mg x = some (.ref f) := by
  obtain ⟨f, oc, od, an, osl, kV, doc, pm, cdv, ct, a, l, c, k⟩ := D
  exact ⟨f, _, fun_mk l c k, mg_of X G a⟩
abbrev bmV : List Value := [.type "ValueError", .type "Exception", .type "BaseException", .type "object"]
def ExIn (K : Frag) (c : Nat) : Prop := ∃ C : Addr, nsIn K mainGlobals (excNm c) = some (some (.ref C)) ∧ excIn K C bmV "ValueError.__new__" = true ∧ keepIn K (.ref C) = true ∧ subIn K (.ref C) (.type "BaseException") = some true ∧ typeIn K (.ref C) = some (.type "type")
theorem exIn {K : Frag} {c : Nat} {x : Str} {C : Addr} (hx : excNm c = x) (a : nsIn K mainGlobals x = some (some (.ref C))) (q : excIn K C bmV "ValueError.__new__" = true) (k : keepIn K (.ref C) = true) (s : subIn K (.ref C) (.type "BaseException") = some true) (t : typeIn K (.ref C) = some (.type "type")) : ExIn K c := ⟨C, hx ▸ a, q, k, s, t⟩
theorem ExIn.top {K : Frag} {h : Heap} {mg : Str → Option Value} {c : Nat} {sa : Addr} {ns : List Int} {P : Program} {w : World} {base : Heap} (D : ExIn K c) (X : K.In h) (G : h.Ns mainGlobals mg) : ExcF ⟨wdOf K sa ns, P, w, mg, base⟩ c (excNm c) bmV := by
  obtain ⟨C, a, q, k, s, t⟩ := D
  have e : (wdOf K sa ns).ca c = C := gAdr_eq a
  refine ⟨?_, ?_, ?_, ?_, ?_⟩
  · show mg (excNm c) = some (.ref ((wdOf K sa ns).ca c))
    rw [e]
    exact mg_of X G a
  all_goals (simp only [e]; assumption)
/-- what a law's def promises -/
def spLaw (K : Frag) (n : Nat) : Sp := fun vs H Q _ => ∃ (a : Addr) (ns : List Int), vs = [.ref a] ∧ ns.length ≤ n ∧ Only H ∧ SqL K H a (ns.map V.int) ∧ ∀ H', Q (.bl true) H'
theorem law_fn {P : Program} {w : World} {K : Frag} {mg : Str → Option Value} {base : Heap} {k n : Nat} {f : Addr} {fd : FuncData} {x : Str} {m : List Int → SemF}
    (hF : ∀ (sa : Addr) (ns : List Int), FnOk P w K mg base (L2.CX P w) k f fd [x] (spD (wdOf K sa ns) 1 (m ns)))
    (hm : ∀ ns : List Int, ns.length ≤ n → ∃ S', m ns [.sc] ⟨none, []⟩ = some (.ok (.d (.bool true)), S')) : FnOk P w K mg base (L2.CX P w) k f fd [x] (spLaw K n) := by
  have key : ∀ vs H Q E, spLaw K n vs H Q E → ∃ sa ns, spD (wdOf K sa ns) 1 (m ns) vs H Q E := by
    rintro vs H Q E ⟨a, ns, rfl, hl, hO, hS, hQ⟩
    obtain ⟨S', e⟩ := hm ns hl
    have notup : ∀ b o, H b = some o → ∃ ob xs, o = .frz ob (.lst xs) := fun b o e => by
      rcases hO b with z | ⟨ob, xs, z⟩
      · rw [e] at z; cases z
      · rw [e] at z; cases z; exact ⟨ob, xs, rfl⟩
    refine ⟨a, ns, ⟨fun _ => True, none, []⟩, [.sc], ⟨none, []⟩, _, S', rfl, ?_, .cons rfl .nil, e, fun u eu v G' H' gr r => ?_, fun c z => nomatch z⟩
    · refine ⟨fun _ _ => trivial, fun b m => ?_, fun b h => (nomatch h), fun _ => rfl, rfl, fun k t og h1 => ?_, List.nodup_nil, List.nodup_nil, fun b h => (nomatch h), ?_⟩
      · rcases m with z | ⟨t, ht, _⟩
        · cases z
        · cases ht
      · simp at h1
      · rcases hS with (h | ⟨ob, h⟩) | h
        · obtain ⟨ob, xs, z⟩ := notup _ _ h
          cases z
        · exact .inl ⟨ob, h⟩
        · exact .inr (.inr h)
    · cases eu
      cases r
      exact hQ H'
  refine ⟨fun vs H Q E h => ?_, fun A outer s H args us vs Q E hr he hb hv h => ?_⟩
  · obtain ⟨a, ns, rfl, _⟩ := h
    rfl
  · obtain ⟨sa, ns, h'⟩ := key vs H Q E h
    exact (hF sa ns).run A outer s H args us vs Q E hr he hb hv h'
theorem cx_end {P : Program} {w : World} {H : Hp} {s s' : Shared} {e : Value} (h : L2.CX P w [] H s (fun _ _ _ => False) e s') : False := by
  obtain ⟨_, _, _, _, _, _, _, _, _, _, _, _, z⟩ := h
  exact z
/-- the goal that the head leaves, of a law over the data layer -/
theorem law_end {l : PySem.W.OpenLaw} {k : Nat} {q : Program} {loose : List Str} {XP : (Str → Option Value) → Heap → Prop} {YP : World → Heap → Prop} {d : DefRec} {K : Params → PySem.W.Frag} {x : Str}
    (hn : l.most = some 63) (hdf : d.params.defaults = []) (hr : Room k callerA) (hY : ∀ (w : World) (h : Heap), YP w h → (K w.params).In h)
    (F : ∀ (w : World) (mg : Str → Option Value) (fa : Addr) (h : Heap), (K w.params).In h → h.Ns mainGlobals mg → mg d.name = some (.ref fa) →
      ∃ fd : FuncData, (∀ (s : Shared) (u : Value), BindsTo s fd ⟨[u], []⟩ [(x, u)]) ∧ ∀ base : Heap, (K w.params).In base → base.Ns mainGlobals mg → FnOk l.prog w (K w.params) mg base (L2.CX l.prog w) k fa fd [x] (spLaw (K w.params) 63)) :
    PySem.W.WalkO q loose XP YP l.row.toRowW d [] (fun f vs => PySem.call f vs) :=
  L2.walk_of (CX := fun w => L2.CX l.prog w) (sp := fun w => spLaw (K w.params) 63) hn (by decide) hdf hr hY F (fun w H a ns hl hO hS => ⟨a, ns, rfl, hl, hO, hS, fun _ => rfl⟩) (fun w H s e s' z => cx_end z)
end DL
set_option maxHeartbeats 1000000
/-! The data layer: sorted(list or tuple), by insertion. -/
namespace DL
open PySem L2 PySem.W PySem.SeqAt
/-! ### insertion -/
section
variable {α β : Type}
def ins (le : α → α → Bool) (a : α) : List α → List α
  | [] => [a]
  | b :: l => if le a b = true then a :: b :: l else b :: ins le a l
def isort (le : α → α → Bool) (l : List α) : List α := l.foldr (ins le) []
theorem ins_at {le : α → α → Bool} {a : α} : ∀ {l1 l2 : List α}, (∀ b ∈ l1, (!le a b) = true) → (∀ b ∈ l2, le a b = true) → ins le a (l1 ++ l2) = l1 ++ a :: l2
  | [], [], _, _ => rfl
  | [], b :: l, _, h => by
    show (if le a b = true then a :: b :: l else b :: ins le a l) = a :: b :: l
    rw [if_pos (h b List.mem_cons_self)]
  | b :: l, l2, h1, h2 => by
    have hb := h1 b List.mem_cons_self
    show (if le a b = true then a :: b :: (l ++ l2) else b :: ins le a (l ++ l2)) = b :: (l ++ a :: l2)
    rw [if_neg (by intro z; rw [z] at hb; cases hb), ins_at (fun c hc => h1 c (List.mem_cons_of_mem _ hc)) h2]
theorem isort_merge {le : α → α → Bool} (tr : ∀ a b c, le a b = true → le b c = true → le a c = true) (to : ∀ a b, (le a b || le b a) = true) : ∀ l : List α, l.mergeSort le = isort le l
  | [] => by simp [isort]
  | a :: l => by
    obtain ⟨l1, l2, e1, e2, h1⟩ := List.mergeSort_cons tr to a l
    have pw := List.pairwise_mergeSort tr to (a :: l)
    rw [e1] at pw
    have h2 : ∀ b ∈ l2, le a b = true := fun b hb => (List.pairwise_cons.mp (List.pairwise_append.mp pw).2.1).1 b hb
    show _ = ins le a (isort le l)
    rw [← isort_merge tr to l, e2, e1, ins_at h1 h2]
end
theorem leD_trans (a b c : PyData) (h1 : leD a b = true) (h2 : leD b c = true) : leD a c = true := by
  unfold leD dataLt at *
  rw [Bool.not_eq_true'] at *
  cases h : PyProof.Rows.lexLt PyProof.Rows.itemOrd (keyToks c) (keyToks a) with
  | false => rfl
  | true =>
    rcases PyProof.Rows.lex_negTrans (O := PyProof.Rows.itemOrd) (keyToks c) (keyToks b) (keyToks a) h with z | z
    · rw [z] at h2; cases h2
    · rw [z] at h1; cases h1
theorem leD_total (a b : PyData) : (leD a b || leD b a) = true := by
  unfold leD dataLt
  cases h : PyProof.Rows.lexLt PyProof.Rows.itemOrd (keyToks b) (keyToks a) with
  | false => rfl
  | true =>
    cases h2 : PyProof.Rows.lexLt PyProof.Rows.itemOrd (keyToks a) (keyToks b) with
    | false => rfl
    | true =>
      have := PyProof.Rows.lex_trans (O := PyProof.Rows.itemOrd) _ _ _ h h2
      rw [PyProof.Rows.lex_irrefl] at this
      cases this
def srtD (ds : List PyData) : List PyData := isort leD ds
theorem srt_eq (ds : List PyData) : sortD ds = srtD ds := isort_merge leD_trans leD_total ds
section
open PyProof.Rows PySem.Calls
variable {prog : Program} {w : World} {A : Around} {E : Value → Shared → Prop} {s : Shared}
/-- the items of a list or a tuple taken out -/
theorem take_seq {T : String} (hT : T = "list" ∨ T = "tuple") {l : Addr} {o : Obj} {n : Nat} {vs : List Value} {Q : List Value → Shared → Prop} (ho : s.heap.get? l = some o) (hc : o.cls = .type T) (hd : o.data = .seq vs.toArray n) (hz : vs.length ≤ sizeLine)
    (h : Q vs { s with heap := (s.heap.push (seqObj "list" #[] 0)).update s.heap.objs.size (Obj.mapSeq (· ++ vs.toArray)) }) : wpAny (model prog w) A (collect (.ref l)) Q E s := by
  unfold collect
  refine wpAny_bind (wpAny_runValue (codeAny_builtin entry_proto_collect' ?_)); show wpAny _ _ (do again (.builtin "list.__iadd__" ⟨[← newList [], .ref l], []⟩)) _ _ s
  refine wpAny_bind (wpAny_newList (wpAny_pure ⟨Code.quiet_builtin _ (by decide +kernel), codeAny_builtin entry_list_iadd' ?_⟩)); show wpAny _ _ (Builtin.List.listExtendWith (.ref s.heap.objs.size) (.ref l) (.ref s.heap.objs.size)) _ _ { s with heap := s.heap.push (seqObj "list" #[] 0) }
  unfold Builtin.List.listExtendWith
  have hp := Heap.get?_push_of_some (seqObj "list" #[] 0) ho
  refine wpAny_bind (wpAny_typeOf (T := T) ⟨o, hp, hc⟩ ?_)
  have ht : (Value.type T == Value.type "list" || Value.type T == Value.type "tuple") = true := by rcases hT with z | z <;> (subst z; rfl)
  rw [if_pos (by rw [Bool.or_assoc, ht, Bool.or_true])]
  refine wpAny_bind (listItems_at hp hd (wpAny_bind (listItems_at (xs := #[]) (n := 0) (Heap.get?_push_size _ rfl) rfl ?_)))
  rw [if_neg (by simp)]
  refine wpAny_bind (listUpdate_at (xs := #[]) (n := 0) (Heap.get?_push_size _ rfl) rfl (wpAny_pure ?_) (Nat.zero_le _) (by simp only [Array.size_append, List.size_toArray, List.length_nil, Array.size_empty]; omega))
  show wpAny (model prog w) A (do
      let o ← load s.heap.objs.size
      match o.data with | .seq xs _ => pure xs.toList | _ => unsupported "internal:collect") Q E { s with heap := (s.heap.push (seqObj "list" #[] 0)).update s.heap.objs.size (Obj.mapSeq (· ++ vs.toArray)) }
  refine wpAny_bind (wpAny_load (get?_update_seq (Heap.get?_push_size _ rfl) _) ?_)
  have e0 : ((#[] : Array Value) ++ vs.toArray).toList = vs := by simp
  show wpAny _ _ (pure ((#[] : Array Value) ++ vs.toArray).toList) Q E _
  rw [e0]
  exact wpAny_pure h
theorem sorted_seq {T : String} (hT : T = "list" ∨ T = "tuple") {l : Addr} {o : Obj} {n : Nat} {vs : List Value} {Q : Value → Shared → Prop} (ho : s.heap.get? l = some o) (hc : o.cls = .type T) (hd : o.data = .seq vs.toArray n) (hL : vs.length ≤ sizeLine)
    (body : ∀ E' : Value → Shared → Prop, wpAny (model prog w) A.in1.in1 (Builtin.«list.sort» ⟨[.ref (s.heap.objs.size + 1)], []⟩) (fun f s' => f = .done (.ret .none) ∧ Q (.ref (s.heap.objs.size + 1)) s') E' { s with heap := copyHeap s.heap vs }) :
    wpAny (model prog w) A (call (.builtin "sorted") [.ref l]) Q E s := by
  refine call_function_entry_kw kind_sorted plain_sorted entry_sorted (args_sorted1 _) ?_
  unfold Builtin.«sorted»
  refine wpAny_bind (m := checkCount "sorted" 1 1 _) (wpAny_pure (wpAny_bind (take_seq hT ho hc hd hL (wpAny_bind (wpAny_newList ?_ hL)))))
  have hsz : ((s.heap.push (seqObj "list" #[] 0)).update s.heap.objs.size (Obj.mapSeq (· ++ vs.toArray))).objs.size = s.heap.objs.size + 1 := Heap.size_update .. |>.trans (size_push' ..)
  show wpAny _ _ _ _ _ { s with heap := copyHeap s.heap vs }
  rw [hsz]
  refine wpAny_bind (wpAny_holding (wpAny_call_entry_kw slot_list_sort ⟨_, copyHeap_at s.heap vs, rfl⟩ entry_list_sort ?body (args_list_sort _)))
  case body =>
    show wpAny (model prog w) A.in1.in1 (Builtin.«list.sort» ⟨[.ref (s.heap.objs.size + 1)], []⟩) _ _ _
    exact wpAny_mono (body _) (fun f s' ⟨e, hq⟩ => e ▸ ⟨_, rfl, wpAny_pure ⟨_, rfl, hq⟩⟩) fun _ _ e => e
theorem sorted_seqD {β : Type} {T : String} (hT : T = "list" ∨ T = "tuple") {l : Addr} {o : Obj} {n : Nat} {vs : List Value} {bs : List β} {enc : β → PyData} {R : Value → β → Prop} {Q : Value → Shared → Prop} (ho : s.heap.get? l = some o) (hc : o.cls = .type T) (hd : o.data = .seq vs.toArray n)
    (e : EachIs R vs bs) (er : EachIs (fun v b => ∃ as, Reads s.heap v (enc b) as) vs bs) (hal : AllAlike (bs.map enc)) (hk : Sortable (bs.map enc)) (hL : bs.length ≤ sizeLine) (hu : ∀ b, b ∈ bs → A.units + 2 + (enc b).depth < cLine)
    (h : ∀ out, out.length = bs.length → EachIs R out (bs.mergeSort (dataLe false enc)) → Q (.ref (s.heap.objs.size + 1)) { s with heap := sortedAll s.heap vs (List.toArray out) }) : wpAny (model prog w) A (call (.builtin "sorted") [.ref l]) Q E s := by
  have er' : EachIs (fun v b => ∃ as, Reads (sortingHeap (copyHeap s.heap vs) (s.heap.objs.size + 1) vs) v (enc b) as) vs bs := er.mono fun _ _ ⟨as, r⟩ => ⟨as, Reads.keeps (fun _ _ => sorting_copy_old) r⟩
  have hl : vs.length ≤ sizeLine := by rw [e.length]; exact hL
  refine sorted_seq hT ho hc hd hl fun _ => list_sort_vals (s := { s with heap := copyHeap s.heap vs }) (copyHeap_at s.heap vs) (SortsAt.data (s := { s with heap := sortingHeap (copyHeap s.heap vs) (s.heap.objs.size + 1) vs }) (each_map (R := fun v d => ∃ as, Reads (sortingHeap (copyHeap s.heap vs) (s.heap.objs.size + 1) vs) v d as) enc er') hal hk (bound_map hu)) hl ⟨rfl, ?_⟩
  exact h _ (by rw [sortVals_length false rfl]; exact e.length) (sortVals_data false e er' hal)
end
def rSortT (K : PySem.W.Frag) : List V → Hp → VK → Prop := fun xs H Q => ∃ (a : Addr) (ps : List (V × PyData)), xs = [.ref a] ∧ H a = some (.tup (ps.map (·.1))) ∧ (∀ p ∈ ps, Dp K H p.1 p.2) ∧ sortOk (ps.map (·.2)) = true ∧
  ∀ q, H q = none → Q (.ref q) (upd H q (.lst ((ps.mergeSort fun a b => leD a.2 b.2).map (·.1))))
theorem cr_sortT {k : Nat} {X : Cx} (hr : Room k X.A) : CallR X (.builtin "sorted") (rSortT X.K) := by
  intro pins s σ H vs us Q I rv h
  obtain ⟨a, ps, rfl, ha, hd, hs, q⟩ := h
  obtain ⟨its, r1, ⟨o, ho, hc, n, hdt⟩, hz⟩ := I.tuple (show SqT X.K H a (ps.map (·.1)) from .inl (.inl ha))
  rw [Vals.ref1 rv]
  obtain ⟨h1, h2, h3, h4⟩ := sortOk_alike hs
  rw [List.length_map] at h4
  have e1 := each_of_vals r1
  refine sorted_seqD (enc := fun p : V × PyData => p.2) (.inr rfl) ho hc hdt e1 (each_reads I hd e1) h1 h2 (lim_sz h4) (fun p hp => by have := h3 p.2 (List.mem_map_of_mem hp); have := hr.un; omega) fun out hlen eo => ?_
  obtain ⟨ep, he'⟩ := PyProof.Rows.sortedAll_at s.heap its out.toArray
  have ed : dataLe false (fun p : V × PyData => p.2) = fun a b => leD a.2 b.2 := rfl
  rw [ed] at eo
  have hv := vals_of_each eo
  have hlen2 : ((ps.mergeSort fun a b => leD a.2 b.2).map (·.1)).length ≤ sizeLine := by
    rw [List.length_map, List.length_mergeSort]
    exact lim_sz h4
  exact ⟨.ref _, upd H (s.heap.objs.size + 1) (.lst ((ps.mergeSort fun a b => leD a.2 b.2).map (·.1))), I.laid (t' := s.toks) (fun _ _ => PyProof.Rows.sortedAll_old) (Nat.le_succ _) ⟨hlen2, out, ep, hv, he'⟩, rfl, q _ (I.hok.fresh (Nat.le_succ _))⟩
section
variable {g : Gb} {W : WX} {ι : Type} {Xf : ι → Cx} {k : Nat}
def oSort : List U → Option U
  | [.d (.list xs)] => if sortOk xs = true then some (.d (.list (srtD xs))) else none
  | [.d (.tuple xs)] => if sortOk xs = true then some (.d (.list (srtD xs))) else none
  | _ => none
theorem ok_sort (F : Fm g W k Xf) : CallOkF g Xf (.builtin "sorted") oSort := by
  refine ⟨fun xs H Q => rSortD g.wd.K xs H Q ∨ rSortT g.wd.K xs H Q, fun i => F.K i ▸ CallR.or (cr_sortD (F.room i)) (cr_sortT (F.room i)), fun G H S vs us z Q ok rv e k => ?_⟩
  unfold oSort at e
  split at e
  · split at e
    · rename_i hs
      cases e
      obtain ⟨v, rfl, h⟩ := rpUs1 rv
      cases h with
      | lst f h r =>
        obtain ⟨ps, e1, e2, e3⟩ := rp_pairs r
        subst e1 e2
        refine .inl ⟨_, ps, rfl, h, fun p hp => Rp.dp _ _ _ (e3 p hp), hs, fun q hq => ?_⟩
        have r2 : RpAll G.F H ((ps.mergeSort fun a b => leD a.2 b.2).map (·.1)) (srtD (ps.map (·.2))) := by
          rw [← srt_eq, ← sort_pairs]
          exact rp_of_pairs fun p hp => e3 p ((List.mergeSort_perm _ _).mem_iff.mp hp)
        exact k _ rfl q _ G _ hq (ok.fresh q hq) (Grow.new ok hq) upd_same (new_lst ok hq r2)
    · cases e
  · split at e
    · rename_i hs
      cases e
      obtain ⟨v, rfl, h⟩ := rpUs1 rv
      cases h with
      | tup h r =>
        obtain ⟨ps, e1, e2, e3⟩ := rp_pairs r
        subst e1 e2
        refine .inr ⟨_, ps, rfl, h, fun p hp => Rp.dp _ _ _ (e3 p hp), hs, fun q hq => ?_⟩
        have r2 : RpAll G.F H ((ps.mergeSort fun a b => leD a.2 b.2).map (·.1)) (srtD (ps.map (·.2))) := by
          rw [← srt_eq, ← sort_pairs]
          exact rp_of_pairs fun p hp => e3 p ((List.mergeSort_perm _ _).mem_iff.mp hp)
        exact k _ rfl q _ G _ hq (ok.fresh q hq) (Grow.new ok hq) upd_same (new_lst ok hq r2)
    · cases e
  · cases e
end
end DL
set_option maxHeartbeats 1000000
/-! The data layer: more words. -/
namespace DL
open PySem L2 PySem.W PySem.SeqAt
section
variable {g : Gb} {W : WX} {ι : Type} {Xf : ι → Cx} {k : Nat}
/-! ### list(range(n)) -/
theorem rp_rg {F : Addr → Prop} {H : Hp} (lo : Int) : ∀ l : List Nat, RpAll F H (l.map fun (i : Nat) => V.int (lo + (i : Int))) (l.map fun (i : Nat) => PyData.int (lo + (i : Int)))
  | [] => .nil
  | _ :: l => .cons (.int _) (rp_rg lo l)
def eLRange (f : SemE) : SemE := fun δ S => bnd (f δ S) fun x S => match x with
  | .d (.int n) => if n.natAbs ≤ 1000 then some (.ok (.d (.list (intsD 0 n.toNat))), S) else none
  | _ => none
theorem sf_lrange {e : Expr} {f : SemE} {p p2 pos pos2 : Pos} (F : Fm g W k Xf) (hm : g.mg "list" = none) (hm2 : g.mg "range" = none) (he : SE g W Xf e f) (hg : ∀ i, Gl (Xf i) "list" := by intro _; rfl) (hg2 : ∀ i, Gl (Xf i) "range" := by intro _; rfl)
    (na : ∀ i, starEach [e] (Xf i).env = (false, eval e (Xf i).env) :: starEach [] (Xf i).env := by intro _; rfl)
    (nb : ∀ i, starEach [.Call (.Name "range" p2) [e] [] pos2] (Xf i).env = (false, eval (.Call (.Name "range" p2) [e] [] pos2) (Xf i).env) :: starEach [] (Xf i).env := by intro _; rfl) :
    SF g W Xf (.Call (.Name "list" p) [.Call (.Name "range" p2) [e] [] pos2] [] pos) (eLRange f) := by
  obtain ⟨t, p1, q1⟩ := he
  refine ⟨tLstRg (tRg1 t), fun i => pe_listRg (F.calm i) (hg i) (by rw [F.mg i]; exact hm) (prg_1 (hg2 i) (by rw [F.mg i]; exact hm2) (p1 i) (na i)) (nb i), fun G σ H δ S z S' Q s0 e k1 k2 => ?_⟩
  rcases bnd_some e with ⟨u, S1, ea, e2⟩ | ⟨c, ec, ez⟩
  · refine q1 G σ H δ S _ S1 _ s0 ea (fun x ex v G1 H1 gr1 rv => ?_) (fun c ec => nomatch ec)
    cases ex
    split at e2
    · rename_i n
      split at e2
      · rename_i hn
        cases e2
        cases rv
        refine ⟨n, rfl, ⟨by omega, by omega, by omega, by omega, by omega⟩, fun q hq => ?_⟩
        have r2 : RpAll G1.F H1 (rgV 0 n) (intsD 0 n.toNat) := by
          unfold rgV intsD
          rw [Int.sub_zero]
          exact rp_rg 0 _
        exact k1 _ rfl q _ G1 _ (gr1.none_of hq) (gr1.ok.fresh q hq) (gr1.trans (Grow.new gr1.ok hq)) upd_same (new_lst gr1.ok hq r2)
      · cases e2
    · cases e2
  · subst ez
    refine q1 G σ H δ S _ S' _ s0 ec (fun xs exs => nomatch exs) (fun c' ec' G2 H2 gr2 => ?_)
    cases ec'
    exact k2 c rfl G2 H2 gr2
/-! ### xs[::-1] -/
theorem rp_rev {F : Addr → Prop} {H : Hp} : ∀ {vs : List V} {ds : List PyData}, RpAll F H vs ds → RpAll F H vs.reverse ds.reverse
  | _, _, .nil => .nil
  | _, _, .cons h t => by
    rw [List.reverse_cons, List.reverse_cons]
    exact (rp_rev t).append (.cons h .nil)
def eRev (f : SemE) : SemE := fun δ S => bnd (f δ S) fun x S => match x with
  | .d (.list xs) => some (.ok (.d (.list xs.reverse)), S)
  | _ => none
theorem sf_rev {e : Expr} {f : SemE} {kk : Nat} {p1 p2 p3 pos : Pos} (F : Fm g W k Xf) (he : SE g W Xf e f) : SF g W Xf (.Subscript e (.Slice none none (some (.UnaryOp .USub (.Constant (.int 1) kk p1) p2)) p3) pos) (eRev f) := by
  obtain ⟨t, p1, q1⟩ := he
  refine ⟨tRevL g.wd.K t, fun i => F.K i ▸ pe_revL (p1 i), fun G σ H δ S z S' Q s0 e k1 k2 => ?_⟩
  rcases bnd_some e with ⟨u, S1, ea, e2⟩ | ⟨c, ec, ez⟩
  · refine q1 G σ H δ S _ S1 _ s0 ea (fun x ex v G1 H1 gr1 rv => ?_) (fun c ec => nomatch ec)
    cases ex
    split at e2
    · cases e2
      cases rv with
      | lst f h r =>
        exact ⟨_, _, rfl, .inl (.inl h), fun q hq => k1 _ rfl q _ G1 _ (gr1.none_of hq) (gr1.ok.fresh q hq) (gr1.trans (Grow.new gr1.ok hq)) upd_same (new_lst gr1.ok hq (rp_rev r))⟩
    · cases e2
  · subst ez
    refine q1 G σ H δ S _ S' _ s0 ec (fun xs exs => nomatch exs) (fun c' ec' G2 H2 gr2 => ?_)
    cases ec'
    exact k2 c rfl G2 H2 gr2
/-! ### f() -/
def eCall0 (m : SemF) : SemE := fun _ S => m [] S
theorem se_call0 {j : Nat} {x : Str} {m : SemF} {p pos : Pos} (F : Fm g W k Xf) (D : Fk g j x 0 m) (hj : j ≤ k := by decide) (hg : ∀ i, Gl (Xf i) x := by intro _; rfl) (hdb : (x == ("__debug__" : Str)) = false := by decide) :
    SE g W Xf (.Call (.Name x p) [] [] pos) (eCall0 m) := by
  obtain ⟨f, fd, ps, hl, FO, hm, hk, hb⟩ := D.ex
  refine ⟨tCallS (spD g.wd 0 m) (WE W) tNil, fun i => ?_, fun G σ H δ S z S' Q s0 e k1 k2 => ?_⟩
  · have FO' : FnOk (Xf i).prog (Xf i).w (Xf i).K (Xf i).mg (Xf i).base (L2.CX (Xf i).prog (Xf i).w) j f fd ps (spD g.wd 0 m) := by
      rw [F.prog i, F.w i, F.K i, F.mg i, F.base i]
      exact FO
    refine ⟨fun pins s σ H Q I h => ?_⟩
    refine wpAny_Call_Name_kw (ld_glob I (hg i) (by rw [F.mg i]; exact hm) ?_ hdb)
    exact PySem.W.callWith_K0 I.kIn (by rw [F.K i]; exact hk) (run_fnS (us := []) FO' ((F.room i).mono hj) (by rw [F.K i]; exact hb) (passAt (F.takes i) σ) I .nil h)
  · exact ⟨G, [], S, z, S', rfl, s0.ok, .nil, e, fun u eu v G2 H2 gr2 r2 => k1 u eu v G2 H2 gr2 r2, fun c ec G2 H2 gr2 => k2 c ec G2 H2 gr2⟩
/-! ### x += e, of ints -/
def sAug (i : Nat) (f : SemE) : SemS := fun δ S => match δ[i]? with
  | some (some (.u (.d (.int a)))) => (match f δ S with
    | some (.ok (.d (.int b)), S') => some (.nx, δ.set i (some (.u (.d (.int (a + b))))), S')
    | some (.error c, S') => some (.ex c, δ, S')
    | _ => none)
  | _ => none
/-! ### x.remove(e), of ints -/
def allI : List PyData → Option (List Int)
  | [] => some []
  | .int i :: r => match allI r with
    | some l => some (i :: l)
    | none => none
  | _ :: _ => none
def sRem (i : Nat) (f : SemE) : SemS := fun δ S => match δ[i]? with
  | some (some (.own xs)) => (match allI xs, f (bor δ) S with
    | some ns, some (.ok (.d (.int k)), S') => if k ∈ ns then some (.nx, δ.set i (some (.own ((ns.erase k).map .int))), S') else none
    | _, _ => none)
  | _ => none
/-! ### min of a list -/
def minOk (ds : List PyData) : Bool := (ds.all fun d => ds.all fun e => alike d e) && (ds.all fun d => !isNon d) && decide (PyData.depthAll ds ≤ 90)
def oMinL : List U → Option U
  | [.d (.list (x :: xs))] => if minOk (x :: xs) = true then some (.d (minD x xs)) else none
  | _ => none
theorem minD_mem : ∀ (xs : List PyData) (x : PyData), minD x xs ∈ x :: xs
  | [], x => List.mem_cons_self
  | y :: xs, x => by
    have ih := minD_mem xs (if dataLt y x then y else x)
    show minD (if dataLt y x then y else x) xs ∈ x :: y :: xs
    rcases List.mem_cons.mp ih with h | h
    · rw [h]
      split
      · exact List.mem_cons_of_mem _ List.mem_cons_self
      · exact List.mem_cons_self
    · exact List.mem_cons_of_mem _ (List.mem_cons_of_mem _ h)
def rMinL (K : PySem.W.Frag) : List V → Hp → VK → Prop := fun xs H Q => ∃ (a : Addr) (ps : List (V × PyData)) (x : PyData) (r : List PyData), xs = [.ref a] ∧ H a = some (.lst (ps.map (·.1))) ∧ (∀ p ∈ ps, Dp K H p.1 p.2) ∧ ps.map (·.2) = x :: r ∧ minOk (x :: r) = true ∧ ∀ p ∈ ps, p.2 = minD x r → Q p.1 H
theorem cr_minL {X : Cx} (hc : X.calm = true) (hr : Room k X.A) : CallR X (.builtin "min") (rMinL X.K) := by
  intro pins s σ H vs us Q I rv h
  obtain ⟨a, ps, x, r, rfl, ha, hd, hp, hs, q⟩ := h
  obtain ⟨its, r1, hl, hz⟩ := I.list (show SqL X.K H a (ps.map (·.1)) from .inl (.inl ha))
  rw [Vals.ref1 rv]
  unfold minOk at hs
  rw [Bool.and_eq_true, Bool.and_eq_true] at hs
  obtain ⟨⟨h1, h2⟩, h3⟩ := hs
  have hal : ∀ d ∈ x :: r, ∀ e ∈ x :: r, alike d e = true := fun d hd e he => List.all_eq_true.mp (List.all_eq_true.mp h1 d hd) e he
  have e1 := each_of_vals r1
  obtain ⟨as, hra⟩ := each_readsAll (fun p : V × PyData => p.2) (each_reads I hd e1)
  rw [hp] at hra
  refine min_list_data (vs := its.toArray) (I.ok.hd hc) hl.isList (by simpa using hra) ⟨hal, fun d hd e => ?_⟩ (by have := of_decide_eq_true h3; have := hr.un; omega) fun i v h' tk bs hv rd kp => ?_
  · have := List.all_eq_true.mp h2 d hd
    rw [e] at this
    cases this
  · have hv' : its[i]? = some v := by simpa using hv
    have rl := r1.length
    have hlt : i < its.length := (List.getElem?_eq_some_iff.mp hv').1
    rw [List.length_map] at rl
    have hi : i < ps.length := by omega
    have hpi : ps[i]? = some ps[i] := List.getElem?_eq_getElem hi
    have hx : (ps.map (·.1))[i]? = some ps[i].1 := by rw [List.getElem?_map, hpi]; rfl
    obtain ⟨u, hu, ru⟩ := r1.get hx
    rw [hv'] at hu
    cases hu
    obtain ⟨bs', rd'⟩ := Dp.reads I _ _ _ (hd ps[i] (List.getElem_mem hi)) ru
    have hm : ps[i].2 ∈ x :: r := by rw [← hp]; exact List.mem_map_of_mem (List.getElem_mem hi)
    have ee := alike_unique _ _ v _ _ (hal _ hm _ (minD_mem r x)) (PyProof.Rows.Reads.keeps kp rd') rd
    exact ⟨ps[i].1, H, I.kept (t' := tk) kp, ru, q ps[i] (List.getElem_mem hi) ee⟩
theorem ok_minL (F : Fm g W k Xf) : CallOk g Xf (.builtin "min") oMinL := by
  refine ⟨rMinL g.wd.K, fun i => F.K i ▸ cr_minL (F.calm i) (F.room i), fun G H S vs us z Q ok rv e k => ?_⟩
  unfold oMinL at e
  split at e
  · split at e
    · rename_i hs
      cases e
      obtain ⟨v, rfl, h⟩ := rpUs1 rv
      cases h with
      | lst f h r =>
        obtain ⟨ps, e1, e2, e3⟩ := rp_pairs r
        subst e1
        exact ⟨_, ps, _, _, rfl, h, fun p hp => Rp.dp _ _ _ (e3 p hp), e2.symm, hs, fun p hp ep => k p.1 G H (Grow.refl ok) (show Rp G.F H p.1 _ from ep ▸ e3 p hp)⟩
    · cases e
  · cases e
/-! ### xs.index(e), of ints -/
def eIdx (f h : SemE) : SemE := fun δ S => bnd (f δ S) fun x S => match x with
  | .d (.list xs) => bnd (h δ S) fun y S => (match y with
    | .d (.int k) => (match allI xs with
      | some ns => if k ∈ ns then some (.ok (.d (.int (ns.idxOf k))), S) else none
      | none => none)
    | _ => none)
  | _ => none
end
end DL
set_option maxHeartbeats 1000000
/-! The data layer: x.extend(list or tuple). -/
namespace DL
open PySem L2 PySem.W PySem.SeqAt
theorem ext_tup (l : Addr) (items : Array Value) (n : Nat) (b : Addr) (items2 : Array Value) (hl : ¬(!items.isEmpty && Builtin.List.listTooLong (items.size + items2.size)) = true) (h1 : items.size ≤ sizeLine) (h2 : items.size + items2.size ≤ sizeLine + 1) :
    Meets (Builtin.«list.extend» ⟨[.ref l, .ref b], []⟩) (fun _ R s => s.heap.get? l = some { cls := .type "list", dict := none, data := .seq items n, slots := #[] } ∧ PyProof.Rows.IsTup s.heap b items2 ∧ R (.ok (.ret Value.none)) { s with heap := s.heap.update l (Obj.mapSeq fun x => x ++ items2), toks := s.toks }) :=
  .of_wp fun prog w A R s h => by
    obtain ⟨ho, ⟨o, hb, hc, n2, hd⟩, h⟩ := h
    show wpAny _ _ (Builtin.List.listExtendWith (.ref l) (.ref b) .none) _ _ s
    unfold Builtin.List.listExtendWith
    refine wpAny_bind (wpAny_typeOf (T := "tuple") ⟨o, hb, hc⟩ ?_)
    rw [if_pos (by rw [show (Value.type "tuple" == Value.type "tuple") = true from rfl, Bool.or_true])]
    refine wpAny_bind (PyProof.Rows.listItems_at hb hd (wpAny_bind (PyProof.Rows.listItems_at ho rfl ?_)))
    rw [if_neg hl]
    refine wpAny_bind (PyProof.Rows.listUpdate_at ho rfl (wpAny_pure ⟨_, rfl, h⟩) h1 (by rw [Array.size_append]; exact h2))
def rExtT (K : PySem.W.Frag) : V → List V → Hp → VK → Prop := fun x vs H Q => ∃ l b xs zs, x = .ref l ∧ vs = [.ref b] ∧ H l = some (.lst xs) ∧ H b = some (.tup zs) ∧ xs.length + zs.length ≤ sizeLine ∧ Q .non (upd H l (.lst (xs ++ zs)))
theorem mt_extT {X : Cx} : MtM X "list.extend" (rExtT X.K) := by
  intro pins s σ H x vs v us Q I rx rv h
  obtain ⟨l, b, xs, zs, rfl, rfl, hH, hB, hz, q⟩ := h
  cases rx
  obtain ⟨u, rfl, ru⟩ := rv.one
  cases ru
  obtain ⟨z, its, n, r, hl, e⟩ := I.lstM hH
  obtain ⟨its2, r2, e2, hl2⟩ := I.tuple (show SqT X.K H b zs from .inl (.inl hB))
  have l1 := r.length
  have l2 := r2.length
  have hsz : its.toArray.size + its2.toArray.size ≤ sizeLine := by
    rw [List.size_toArray, List.size_toArray]
    omega
  have hlong : ¬ (!its.toArray.isEmpty && Builtin.List.listTooLong (its.toArray.size + its2.toArray.size)) = true := by
    rw [notLongL hsz, Bool.and_false]
    exact Bool.false_ne_true
  refine call_meets F.slot_list_extend ⟨_, e, rfl⟩ F.entry_list_extend (F.args_list_extend_2 _ _) (ext_tup l its.toArray n b its2.toArray hlong (by rw [List.size_toArray]; omega) (by omega)) ⟨e, e2, ?_⟩
  refine ⟨.non, _, I.lset (its' := its ++ its2) hH e (by simp) (r.append r2) ?_, rfl, q⟩
  rw [List.length_append]
  omega
theorem mtM_or {X : Cx} {id : String} {r r' : V → List V → Hp → VK → Prop} (h : MtM X id r) (h' : MtM X id r') : MtM X id (fun x vs H Q => r x vs H Q ∨ r' x vs H Q) := by
  intro pins s σ H x vs v us Q I rx rv q
  rcases q with q | q
  · exact h pins s σ H x vs v us Q I rx rv q
  · exact h' pins s σ H x vs v us Q I rx rv q
section
variable {g : Gb} {W : WX} {ι : Type} {Xf : ι → Cx} {k : Nat}
def sExtA (i : Nat) (f : SemE) : SemS := fun δ S => match δ[i]? with
  | some (some (.own xs)) => (match f δ S with
    | some (.ok (.d (.list ys)), S') => if xs.length + ys.length ≤ LIM then some (.nx, δ.set i (some (.own (xs ++ ys))), S') else none
    | some (.ok (.d (.tuple ys)), S') => if xs.length + ys.length ≤ LIM then some (.nx, δ.set i (some (.own (xs ++ ys))), S') else none
    | some (.error c, S') => some (.ex c, δ, S')
    | _ => none)
  | _ => none
theorem rd_extA {wd : Wd} {t : TE} {f : SemE} {i : Nat} (q1 : RdE wd W t f) : RdS wd W (tDrop (tBM wd.K "list" (fun x vs H Q => rExtend x vs H Q ∨ rExtT wd.K x vs H Q) (tVar i) (tCons t tNil))) (sExtA i f) := fun G0 H0 G σ H δ S fl δ' S' D s e k1 k2 k3 => by
  unfold sExtA at e
  split at e
  · rename_i xs hi
    obtain ⟨a, vs, ha, hal, r, nf, nm, n0⟩ := s.own i xs hi
    refine ⟨.ref a, ha, .inl ⟨rfl, vs, .inl (.inl hal)⟩, ?_⟩
    split at e
    · rename_i ys S1 h1
      split at e
      · rename_i hl
        cases e
        refine evN q1 s h1 (fun u' eu v G' H' s' kp rv => ?_) (fun c z => nomatch z)
        cases eu
        cases rv with
        | lst fb hb rb =>
          obtain ⟨a', vs', ha', hal', r', _⟩ := s'.own i xs hi
          rw [ha] at ha'
          cases ha'
          obtain ⟨s2, kp2⟩ := s'.updOwn (vs' := vs' ++ _) (xs' := xs ++ ys) hi ha hal' (r'.append rb)
          exact .inl ⟨a, _, vs', _, rfl, rfl, hal', hb, lim_sz (by rw [r'.length, rb.length]; exact hl), k1 rfl G' σ _ rfl s2 (kp.trans kp2)⟩
      · cases e
    · rename_i ys S1 h1
      split at e
      · rename_i hl
        cases e
        refine evN q1 s h1 (fun u' eu v G' H' s' kp rv => ?_) (fun c z => nomatch z)
        cases eu
        cases rv with
        | tup hb rb =>
          obtain ⟨a', vs', ha', hal', r', _⟩ := s'.own i xs hi
          rw [ha] at ha'
          cases ha'
          obtain ⟨s2, kp2⟩ := s'.updOwn (vs' := vs' ++ _) (xs' := xs ++ ys) hi ha hal' (r'.append rb)
          exact .inr ⟨a, _, vs', _, rfl, rfl, hal', hb, lim_sz (by rw [r'.length, rb.length]; exact hl), k1 rfl G' σ _ rfl s2 (kp.trans kp2)⟩
      · cases e
    · rename_i c S1 h1
      cases e
      refine evN q1 s h1 (fun u' eu => nomatch eu) (fun c' z G' H' gr => ?_)
      cases z
      exact k3 c rfl σ G' H' rfl gr
    · cases e
  · cases e
theorem ss_extA (i : Nat) {x : Str} {e : Expr} {f : SemE} {p apos cpos pos : Pos} (F : Fm g W k Xf) (he : SE g W Xf e f) (hN : ∀ j, (Xf j).N[i]? = some x := by intro _; rfl)
    (hv : ∀ j, Vis (Xf j).env.scope x := by first | exact fun _ => Or.inl rfl | exact fun _ => Or.inr (Or.inl rfl) | exact fun _ => Or.inr (Or.inr rfl)) (hd : (x == ("__debug__" : Str)) = false := by decide) (hcd : (x == ("__classdict__" : Str)) = false := by decide)
    (hs : ∀ j, starEach [e] (Xf j).env = (false, eval e (Xf j).env) :: starEach [] (Xf j).env := by intro _; rfl) (hline : (apos.endLine == cpos.line) = true := by rfl)
    (hb : ∀ j, attributeBase (.Name x p) "extend" (Xf j).env (eval (.Name x p) (Xf j).env) = eval (.Name x p) (Xf j).env := by intro _; rfl) (hw : ∀ j, swapsWith (.Call (.Attribute (.Name x p) "extend" apos) [e] [] cpos) none pos.line (Xf j).env = pure false := by intro _; rfl) :
    SS g W Xf (.Expr (.Call (.Attribute (.Name x p) "extend" apos) [e] [] cpos) pos) (sExtA i f) := by
  obtain ⟨t, p1, q1⟩ := he
  exact ⟨_, ps_m1 i F PySem.F.slot_list_extend PySem.F.type_list_extend (fun j => F.K j ▸ mtM_or mt_extend mt_extT) p1 hN hv hd hcd hs hline hb hw, rd_extA q1⟩
end
end DL
set_option maxHeartbeats 1000000
/-! The data layer: try .. except PlanError as e: return _law_which(e). -/
namespace DL
open PySem L2 PySem.W PySem.SeqAt
section
variable {g : Gb} {W : WX} {ι : Type} {Xf : ι → Cx} {k : Nat}
/-! ### isinstance(e, C) of the error in hand -/
def eIsX (i v : Nat) : SemE := fun δ S => match δ[v]? with
  | some (some (.u (.x c))) => some (.ok (.d (.bool (decide (min c 10 = min i 10)))), S)
  | _ => none
def eIsVE (v : Nat) : SemE := fun δ S => match δ[v]? with
  | some (some (.u (.x c))) => some (.ok (.d (.bool true)), S)
  | _ => none
/-! ### stores, comparisons there -/
/-! ### xs.count(e), xs.index(e), over data -/
def eM1 (op : List PyData → PyData → Option PyData) (f h : SemE) : SemE := fun δ S => bnd (f δ S) fun x S => match x with
  | .d (.list xs) => bnd (h δ S) fun y S => (match y with
    | .d d => (match op xs d with
      | some z => some (.ok (.d z), S)
      | none => none)
    | _ => none)
  | _ => none
/-! ### _law_which(e), called where the error is handled -/
end
end DL
set_option maxHeartbeats 1000000
/-! The data layer: the try statement. -/
namespace DL
open PySem L2 PySem.W PySem.SeqAt
section
variable {g : Gb} {W : WX} {ι : Type} {Xf : ι → Cx} {k : Nat}
def sTry (i : Nat) (body : SemS) (m : SemF) : SemS := fun δ S => match body δ S with
  | some (.ex c, δ1, S1) => if i < δ.length then (match m [.x c] S1 with
    | some (.ok (.d x), S2) => some (.rt (.d x), δ1, S2)
    | _ => none) else none
  | r => r
/-- the class PlanError -/
def PlanE (g : Gb) : Prop := ∃ C, g.mg "PlanError" = some (.ref C) ∧ ∀ c, exmOne g.wd.K (.ref (g.wd.ca c)) (.ref C) = some true
end
end DL
set_option maxHeartbeats 1000000
/-! The data layer: what the written part must say of the classes of errors. -/
namespace DL
open PySem L2 PySem.W PySem.SeqAt
theorem excNm_min (c : Nat) : excNm c = excNm (min c 10) := by
  by_cases h : c ≤ 10
  · rw [Nat.min_eq_left h]
  · rw [Nat.min_eq_right (by omega)]
    match c, h with
    | 0, h => omega
    | 1, h => omega
    | 2, h => omega
    | 3, h => omega
    | 4, h => omega
    | 5, h => omega
    | 6, h => omega
    | 7, h => omega
    | 8, h => omega
    | 9, h => omega
    | n + 10, h => rfl
def plB (K : Frag) (C : Addr) : Bool := (List.range 11).all fun c => exmOne K (.ref (gAdr K (excNm c))) (.ref C) == some true
def PlIn (K : Frag) : Prop := ∃ C : Addr, nsIn K mainGlobals "PlanError" = some (some (.ref C)) ∧ plB K C = true
theorem PlIn.top {K : Frag} {h : Heap} {mg : Str → Option Value} {sa : Addr} {ns : List Int} {P : Program} {w : World} {base : Heap} (D : PlIn K) (X : K.In h) (G : h.Ns mainGlobals mg) : PlanE ⟨wdOf K sa ns, P, w, mg, base⟩ := by
  obtain ⟨C, a, b⟩ := D
  refine ⟨C, mg_of X G a, fun c => ?_⟩
  have := List.all_eq_true.mp b (min c 10) (List.mem_range.mpr (by omega))
  rw [beq_iff_eq, ← excNm_min] at this
  exact this
end DL
set_option maxHeartbeats 1000000
/-! The data layer: [f, g][i](..). -/
namespace DL
open PySem L2 PySem.W PySem.SeqAt
section
variable {g : Gb} {W : WX} {ι : Type} {Xf : ι → Cx} {k : Nat}
def eCallL (ms : List SemF) (np : Nat) (fi : SemE) (a : SemA) : SemE := fun δ S => bnd (fi δ S) fun x S => match x with
  | .d (.int i) => (match atI ms i with
    | some m => bnd (a δ S) fun us S => if us.length = np then m us S else none
    | none => none)
  | _ => none
end
end DL
set_option maxHeartbeats 1000000
/-! The data layer: x = f(..), the arguments made of own lists. -/
namespace DL
open PySem L2 PySem.W PySem.SeqAt
section
variable {g : Gb} {W : WX} {ι : Type} {Xf : ι → Cx} {k : Nat}
def sSetC (i : Nat) (m : SemF) (np : Nat) (a : SemA) : SemS := fun δ S => match a (bor δ) S with
  | some (.ok us, S1) => if us.length = np ∧ us.all noLstU = true then (match m us S1 with
    | some (.ok u, S2) => some (.nx, δ.set i (some (.u u)), S2)
    | some (.error c, S2) => some (.ex c, δ, S2)
    | none => none) else none
  | some (.error c, S1) => some (.ex c, δ, S1)
  | none => none
end
end DL
set_option maxHeartbeats 1000000
/-! The data layer: t[::-1] of a tuple. -/
namespace DL
open PySem L2 PySem.W PySem.SeqAt PySem.Spec PyProof.Rows
section
variable {g : Gb} {W : WX} {ι : Type} {Xf : ι → Cx} {k : Nat}
def eRevT (f : SemE) : SemE := fun δ S => bnd (f δ S) fun x S => match x with
  | .d (.tuple xs) => some (.ok (.d (.tuple xs.reverse)), S)
  | _ => none
end
end DL
/-! The meanings of the program's defs. Printed by gen.py. -/
namespace PM
open PySem DL
def m_is_integer : SemF := fnSem 3
  (sSeq (sRet (eAnd (eIsT .int (eVar 0)) (eAnd (eNot (eIsT .bool (eVar 0))) (eChain (cD leP) (cD leP) (eVar 1) (eVar 0) (eVar 2)))))
  sNil)
def m_check_players : SemF := fnSem 1
  (sSeq (sIf (tNotS (tOf (eCall m_is_integer 3 (aCons (eVar 0) (aCons (eC (.int 3)) (aCons (eC (.int 9)) aNil)))))) (sSeq (sRaise 0)
  sNil) sNil)
  sNil)
def m_fits : SemF := fnSem 3
  (sSeq (sIf (tOrS (tNotS (tOf (eIsT .tuple (eVar 1)))) (tOrS (tOf (eOp (cD neP) (eBc oLen (aCons (eVar 1) aNil)) (eC (.int 3)))) (tNotS (tOf (eBc oAll (aCons (eLc (itSeq (eVar 1)) [2] (.one 2) tTrue (eCall m_is_integer 3 (aCons (eVar 2) (aCons (eC (.int 0)) (aCons (eOp oSub (eVar 0) (eC (.int 1))) aNil))))) aNil)))))) (sSeq (sRet (eC (.bool false)))
  sNil) sNil)
  (sSeq (sRet (eChain (cD ltP) (cD ltP) (eOp oIx (eVar 1) (eC (.int 0))) (eOp oIx (eVar 1) (eC (.int 1))) (eOp oIx (eVar 1) (eC (.int 2)))))
  sNil))
def m_pairs_of : SemF := fnSem 1
  (sSeq (sRet (eLst (aCons (eSl (eVar 0) oNo (oSome (eC (.int 2)))) (aCons (eTup (aCons (eOp oIx (eVar 0) (eC (.int 0))) (aCons (eOp oIx (eVar 0) (eC (.int 2))) aNil))) (aCons (eSl (eVar 0) (oSome (eC (.int 1))) oNo) aNil)))))
  sNil)
def m_pairs_met : SemF := fnSem 3
  (sSeq (sSet .own 1 (eLst aNil))
  (sSeq (sFor (itSeq (eVar 0)) (.one 2) (sSeq (sExtA 1 (eCall m_pairs_of 1 (aCons (eVar 2) aNil)))
  sNil))
  (sSeq (sRet (eVar 1))
  sNil)))
def m_stands : SemF := fnSem 6
  (sSeq (sIf (tOrS (tNotS (tOf (eIsT .tuple (eVar 1)))) (tNotS (tOf (eBc oAll (aCons (eLc (itSeq (eVar 1)) [2] (.one 2) tTrue (eCall m_fits 2 (aCons (eVar 0) (aCons (eVar 2) aNil)))) aNil))))) (sSeq (sRet (eC (.bool false)))
  sNil) sNil)
  (sSeq (sSet .dat 3 (eCall m_pairs_met 1 (aCons (eVar 1) aNil)))
  (sSeq (sRet (eAnd (eOp (cD eqP) (eLenSet (eVar 3)) (eBc oLen (aCons (eVar 3) aNil))) (eBc oAll (aCons (eLc (itZip (aCons (eVar 1) (aCons (eSl (eVar 1) (oSome (eC (.int 1))) oNo) aNil))) [4, 5] (.tup [4, 5]) tTrue (eOp (cD ltP) (eVar 4) (eVar 5))) aNil))))
  sNil)))
def m_is_plan : SemF := fnSem 2
  (sSeq (sExpr (eCall m_check_players 1 (aCons (eVar 0) aNil)))
  (sSeq (sRet (eCall m_stands 2 (aCons (eVar 0) (aCons (eVar 1) aNil))))
  sNil))
def m_check_plan : SemF := fnSem 2
  (sSeq (sExpr (eCall m_check_players 1 (aCons (eVar 0) aNil)))
  (sSeq (sIf (tNotS (tOf (eCall m_stands 2 (aCons (eVar 0) (aCons (eVar 1) aNil))))) (sSeq (sRaise 2)
  sNil) sNil)
  sNil))
def m_all_pairs : SemF := fnSem 4
  (sSeq (sSet .own 1 (eLst aNil))
  (sSeq (sFor (itR1 (aCons (eVar 0) aNil)) (.one 2) (sSeq (sExtA 1 (eLc (itR2 (aCons (eOp oAdd (eVar 2) (eC (.int 1))) (aCons (eVar 0) aNil))) [3] (.one 3) tTrue (eTup (aCons (eVar 2) (aCons (eVar 3) aNil)))))
  sNil))
  (sSeq (sRet (eVar 1))
  sNil)))
def m_left_of : SemF := fnSem 4
  (sSeq (sSet .dat 2 (eCall m_pairs_met 1 (aCons (eVar 1) aNil)))
  (sSeq (sRet (eLc (itSeq (eCall m_all_pairs 1 (aCons (eVar 0) aNil))) [3] (.one 3) (tOf (eOp (cD notInP) (eVar 3) (eVar 2))) (eVar 3)))
  sNil))
def m_pairs_left : SemF := fnSem 2
  (sSeq (sExpr (eCall m_check_plan 2 (aCons (eVar 0) (aCons (eVar 1) aNil))))
  (sSeq (sRet (eCall m_left_of 2 (aCons (eVar 0) (aCons (eVar 1) aNil))))
  sNil))
def m_is_full : SemF := fnSem 2
  (sSeq (sExpr (eCall m_check_plan 2 (aCons (eVar 0) (aCons (eVar 1) aNil))))
  (sSeq (sRet (eOp (cD eqP) (eCall m_left_of 2 (aCons (eVar 0) (aCons (eVar 1) aNil))) (eLst aNil)))
  sNil))
def m_partners : SemF := fnSem 4
  (sSeq (sExpr (eCall m_check_plan 2 (aCons (eVar 0) (aCons (eVar 1) aNil))))
  (sSeq (sIf (tNotS (tOf (eCall m_is_integer 3 (aCons (eVar 2) (aCons (eC (.int 0)) (aCons (eOp oSub (eVar 0) (eC (.int 1))) aNil)))))) (sSeq (sRaise 3)
  sNil) sNil)
  (sSeq (sRet (eLc (itR1 (aCons (eVar 0) aNil)) [3] (.one 3) (tOf (eOp (cD inP) (eTup (aCons (eBc oMin2 (aCons (eVar 3) (aCons (eVar 2) aNil))) (aCons (eBc oMax2 (aCons (eVar 3) (aCons (eVar 2) aNil))) aNil))) (eCall m_pairs_met 1 (aCons (eVar 1) aNil)))) (eVar 3)))
  sNil)))
def m__law_cell_at (ns : List Int) : SemF := fnSem 4
  (sSeq (sIf (tOf (eOp (cD ltP) (eVar 1) (eBc (oLenS ns) (aCons (eVar 0) aNil)))) (sSeq (sRet (eOp (oIxS ns) (eVar 0) (eVar 1)))
  sNil) sNil)
  (sSeq (sIf (tOf (eOp (cEqS ns) (eVar 0) (eLst aNil))) (sSeq (sRet (eC (.int 0)))
  sNil) sNil)
  (sSeq (sSet .dat 2 (eOp (oIxS ns) (eVar 0) (eOp oMod (eVar 1) (eBc (oLenS ns) (aCons (eVar 0) aNil)))))
  (sSeq (sFor (itR1 (aCons (eBc oMin2 (aCons (eOp oFdiv (eVar 1) (eBc (oLenS ns) (aCons (eVar 0) aNil))) (aCons (eC (.int 60)) aNil))) aNil)) (.one 3) (sSeq (sSet .dat 2 (eOp oFdiv (eVar 2) (eC (.int 1000003))))
  sNil))
  (sSeq (sRet (eOp oAdd (eOp oAdd (eOp oMul (eOp (oIxS ns) (eVar 0) (eOp oMod (eVar 1) (eBc (oLenS ns) (aCons (eVar 0) aNil)))) (eC (.int 31))) (eVar 1)) (eOp oMul (eVar 2) (eC (.int 101)))))
  sNil)))))
def m__law_mixed (ns : List Int) : SemF := fnSem 4
  (sSeq (sSet .dat 3 (eOp oMod (eOp oAdd (eOp oAdd (eOp oMul (eCall (m__law_cell_at ns) 2 (aCons (eVar 0) (aCons (eVar 1) aNil))) (eC (.int 1103515245))) (eOp oMul (eC (.int 7919)) (eVar 1))) (eC (.int 12345))) (eC (.int 2147483647))))
  (sSeq (sRet (eOp oMod (eOp oMod (eOp oMod (eOp oPow (eVar 3) (eC (.int 5))) (eC (.int 2147483647))) (eC (.int 999983))) (eVar 2)))
  sNil))
def m__law_draw (ns : List Int) : SemF := fnSem 3
  (sSeq (sTwApp 1)
  (sSeq (sRet (eCall (m__law_mixed ns) 3 (aCons (eVar 0) (aCons (eLenTw 1) (aCons (eVar 2) aNil)))))
  sNil))
def m_open_list : SemF := fnSem 8
  (sSeq (sSet .dat 2 (eCall m_left_of 2 (aCons (eVar 0) (aCons (eVar 1) aNil))))
  (sSeq (sSet .own 3 (eLst aNil))
  (sSeq (sFor (itSeq (eCall m_all_pairs 1 (aCons (eVar 0) aNil))) (.tup [4, 5]) (sSeq (sFor (itR2 (aCons (eOp oAdd (eVar 5) (eC (.int 1))) (aCons (eVar 0) aNil))) (.one 6) (sSeq (sIf (tOf (eBc oAll (aCons (eLc (itSeq (eCall m_pairs_of 1 (aCons (eTup (aCons (eVar 4) (aCons (eVar 5) (aCons (eVar 6) aNil)))) aNil))) [7] (.one 7) tTrue (eOp (cD inP) (eVar 7) (eVar 2))) aNil))) (sSeq (sApp 3 (eTup (aCons (eVar 4) (aCons (eVar 5) (aCons (eVar 6) aNil)))))
  sNil) sNil)
  sNil))
  sNil))
  (sSeq (sRet (eVar 3))
  sNil))))
def m_open_threes : SemF := fnSem 2
  (sSeq (sExpr (eCall m_check_plan 2 (aCons (eVar 0) (aCons (eVar 1) aNil))))
  (sSeq (sRet (eCall m_open_list 2 (aCons (eVar 0) (aCons (eVar 1) aNil))))
  sNil))
def m_completion : SemF := fnSem 3
  (sSeq (sExpr (eCall m_check_plan 2 (aCons (eVar 0) (aCons (eVar 1) aNil))))
  (sSeq (sSet .dat 2 (eCall m_open_list 2 (aCons (eVar 0) (aCons (eVar 1) aNil))))
  (sSeq (whGo (tOf (eOp (cD neP) (eVar 2) (eLst aNil))) (sSeq (sSet .dat 1 (eBc oTuple (aCons (eBc oSort (aCons (eOp oAdd (eVar 1) (eTup (aCons (eOp oIx (eVar 2) (eC (.int 0))) aNil))) aNil)) aNil)))
  (sSeq (sSet .dat 2 (eCall m_open_list 2 (aCons (eVar 0) (aCons (eVar 1) aNil))))
  sNil)) 10000000000000000000000000000000000000000)
  (sSeq (sRet (eVar 1))
  sNil))))
def m_greatest : SemF := fnSem 1
  (sSeq (sExpr (eCall m_check_players 1 (aCons (eVar 0) aNil)))
  (sSeq (sRet (eOp oIx (eLst (aCons (eC (.int 1)) (aCons (eC (.int 1)) (aCons (eC (.int 2)) (aCons (eC (.int 4)) (aCons (eC (.int 7)) (aCons (eC (.int 8)) (aCons (eC (.int 12)) aNil)))))))) (eOp oSub (eVar 0) (eC (.int 3)))))
  sNil))
def m_full_plans : SemF := fnSem 11
  (sSeq (sPar .own 2 (eLst aNil) .own 3 (eLst (aCons (eTup (aCons (eVar 1) (aCons (eCall m_left_of 2 (aCons (eVar 0) (aCons (eVar 1) aNil))) aNil))) aNil)))
  (sSeq (whGo (tOf (eOp (cD neP) (eVar 3) (eLst aNil))) (sSeq (sPop 3 (.tup [4, 5]))
  (sSeq (sIf (tOf (eOp (cD eqP) (eVar 5) (eLst aNil))) (sSeq (sApp 2 (eVar 4))
  sNil) (sSeq (sUnp (.tup [6, 7]) (eOp oIx (eVar 5) (eC (.int 0))))
  (sSeq (sFor (itR1 (aCons (eVar 0) aNil)) (.one 8) (sSeq (sSet .dat 9 (eBc oTuple (aCons (eBc oSort (aCons (eLst (aCons (eVar 6) (aCons (eVar 7) (aCons (eVar 8) aNil)))) aNil)) aNil)))
  (sSeq (sIf (tAndS (tOf (eOp (cD notInP) (eVar 8) (eTup (aCons (eVar 6) (aCons (eVar 7) aNil))))) (tOf (eBc oAll (aCons (eLc (itSeq (eCall m_pairs_of 1 (aCons (eVar 9) aNil))) [10] (.one 10) tTrue (eOp (cD inP) (eVar 10) (eVar 5))) aNil)))) (sSeq (sApp 3 (eTup (aCons (eOp oAdd (eVar 4) (eTup (aCons (eVar 9) aNil))) (aCons (eLc (itSeq (eVar 5)) [10] (.one 10) (tOf (eOp (cD notInP) (eVar 10) (eCall m_pairs_of 1 (aCons (eVar 9) aNil)))) (eVar 10)) aNil))))
  sNil) sNil)
  sNil)))
  sNil)))
  sNil)) 10000000000000000000000000000000000000000)
  (sSeq (sRet (eLc (itSeq (eVar 2)) [6] (.one 6) tTrue (eBc oTuple (aCons (eBc oSort (aCons (eVar 6) aNil)) aNil))))
  sNil)))
def m_full_plan : SemF := fnSem 3
  (sSeq (sExpr (eCall m_check_plan 2 (aCons (eVar 0) (aCons (eVar 1) aNil))))
  (sSeq (sSet .dat 2 (eCall m_full_plans 2 (aCons (eVar 0) (aCons (eVar 1) aNil))))
  (sSeq (sIf (tOf (eOp (cD eqP) (eVar 2) (eLst aNil))) (sSeq (sRaise 6)
  sNil) sNil)
  (sSeq (sRet (eBc oMinL (aCons (eVar 2) aNil)))
  sNil))))
def m_count_full : SemF := fnSem 2
  (sSeq (sExpr (eCall m_check_plan 2 (aCons (eVar 0) (aCons (eVar 1) aNil))))
  (sSeq (sRet (eBc oLen (aCons (eCall m_full_plans 2 (aCons (eVar 0) (aCons (eVar 1) aNil))) aNil)))
  sNil))
def m_makes_day : SemF := fnSem 4
  (sSeq (sIf (tOrS (tNotS (tOf (eIsT .tuple (eVar 1)))) (tNotS (tOf (eBc oAll (aCons (eLc (itSeq (eVar 1)) [2] (.one 2) tTrue (eCall m_fits 2 (aCons (eVar 0) (aCons (eVar 2) aNil)))) aNil))))) (sSeq (sRet (eC (.bool false)))
  sNil) sNil)
  (sSeq (sSet .own 3 (eLst aNil))
  (sSeq (sFor (itSeq (eVar 1)) (.one 2) (sSeq (sExtA 3 (eVar 2))
  sNil))
  (sSeq (sRet (eAnd (eOp (cD eqP) (eBc oSort (aCons (eVar 3) aNil)) (eLRange (eVar 0))) (eOp (cD eqP) (eBc oList (aCons (eVar 1) aNil)) (eBc oSort (aCons (eVar 1) aNil)))))
  sNil))))
def m_is_day : SemF := fnSem 2
  (sSeq (sExpr (eCall m_check_players 1 (aCons (eVar 0) aNil)))
  (sSeq (sRet (eCall m_makes_day 2 (aCons (eVar 0) (aCons (eVar 1) aNil))))
  sNil))
def m_day_list : SemF := fnSem 9
  (sSeq (sSet .dat 2 (eLst (aCons (eTup aNil) aNil)))
  (sSeq (sFor (itR1 (aCons (eOp oFdiv (eVar 0) (eC (.int 3))) aNil)) (.one 3) (sSeq (sSet .own 4 (eLst aNil))
  (sSeq (sFor (itSeq (eVar 2)) (.one 5) (sSeq (sSet .own 6 (eLst aNil))
  (sSeq (sFor (itSeq (eVar 5)) (.one 7) (sSeq (sExtA 6 (eVar 7))
  sNil))
  (sSeq (sFor (itSeq (eVar 1)) (.one 7) (sSeq (sIf (tAndS (tNotS (tOf (eBc oAny (aCons (eLc (itSeq (eVar 7)) [8] (.one 8) tTrue (eOp (cD inP) (eVar 8) (eVar 6))) aNil)))) (tOrS (tOf (eOp (cD eqP) (eVar 5) (eTup aNil))) (tOf (eOp (cD ltP) (eOp oIx (eVar 5) (eNeg (eC (.int 1)))) (eVar 7))))) (sSeq (sApp 4 (eOp oAdd (eVar 5) (eTup (aCons (eVar 7) aNil))))
  sNil) sNil)
  sNil))
  sNil))))
  (sFrz 4 (sSeq (sSet .dat 2 (eVar 4))
  sNil)))))
  (sSeq (sRet (eLc (itSeq (eVar 2)) [5] (.one 5) (tOf (eCall m_makes_day 2 (aCons (eVar 0) (aCons (eVar 5) aNil)))) (eVar 5)))
  sNil)))
def m_days_in : SemF := fnSem 2
  (sSeq (sExpr (eCall m_check_plan 2 (aCons (eVar 0) (aCons (eVar 1) aNil))))
  (sSeq (sRet (eCall m_day_list 2 (aCons (eVar 0) (aCons (eVar 1) aNil))))
  sNil))
def m_into_days : SemF := fnSem 8
  (sSeq (sExpr (eCall m_check_plan 2 (aCons (eVar 0) (aCons (eVar 1) aNil))))
  (sSeq (sSet .dat 2 (eCall m_day_list 2 (aCons (eVar 0) (aCons (eVar 1) aNil))))
  (sSeq (sSet .own 3 (eLst (aCons (eTup (aCons (eLst aNil) (aCons (eBc oList (aCons (eVar 1) aNil)) aNil))) aNil)))
  (sSeq (whGo (tOf (eOp (cD neP) (eVar 3) (eLst aNil))) (sSeq (sPop 3 (.tup [4, 5]))
  (sSeq (sIf (tOf (eOp (cD eqP) (eVar 5) (eLst aNil))) (sSeq (sRet (eVar 4))
  sNil) sNil)
  (sSeq (sFor (itSeq (eRev (eVar 2))) (.one 6) (sSeq (sIf (tAndS (tOf (eOp (cD inP) (eOp oIx (eVar 5) (eC (.int 0))) (eVar 6))) (tOf (eBc oAll (aCons (eLc (itSeq (eVar 6)) [7] (.one 7) tTrue (eOp (cD inP) (eVar 7) (eVar 5))) aNil)))) (sSeq (sApp 3 (eTup (aCons (eOp oAdd (eVar 4) (eLst (aCons (eVar 6) aNil))) (aCons (eLc (itSeq (eVar 5)) [7] (.one 7) (tOf (eOp (cD notInP) (eVar 7) (eVar 6))) (eVar 7)) aNil))))
  sNil) sNil)
  sNil))
  sNil))) 10000000000000000000000000000000000000000)
  (sSeq (sRaise 7)
  sNil)))))
def m_named : SemF := fnSem 4
  (sSeq (sRet (eBc oTuple (aCons (eBc oSort (aCons (eLc (itSeq (eVar 0)) [3] (.one 3) tTrue (eBc oTuple (aCons (eBc oSort (aCons (eLc (itSeq (eVar 3)) [2] (.one 2) tTrue (eOp oIx (eVar 1) (eVar 2))) aNil)) aNil))) aNil)) aNil)))
  sNil)
def m_renamed : SemF := fnSem 4
  (sSeq (sExpr (eCall m_check_plan 2 (aCons (eVar 0) (aCons (eVar 1) aNil))))
  (sSeq (sIf (tOrS (tNotS (tOf (eIsT .tuple (eVar 2)))) (tNotS (tOf (eBc oAll (aCons (eLc (itSeq (eVar 2)) [3] (.one 3) tTrue (eCall m_is_integer 3 (aCons (eVar 3) (aCons (eC (.int 0)) (aCons (eOp oSub (eVar 0) (eC (.int 1))) aNil))))) aNil))))) (sSeq (sRaise 5)
  sNil) sNil)
  (sSeq (sIf (tOf (eOp (cD neP) (eBc oSort (aCons (eVar 2) aNil)) (eLRange (eVar 0)))) (sSeq (sRaise 5)
  sNil) sNil)
  (sSeq (sRet (eCall m_named 2 (aCons (eVar 1) (aCons (eVar 2) aNil))))
  sNil))))
def m_goes : SemF := fnSem 4
  (sSeq (sRet (eOp (cD inP) (eBc oTuple (aCons (eBc oSort (aCons (eLc (itSeq (eVar 0)) [3] (.one 3) tTrue (eOp oIx (eVar 1) (eVar 3))) aNil)) aNil)) (eVar 2)))
  sNil)
def m_names_between : SemF := fnSem 10
  (sSeq (sIf (tNotS (tOf (eCall m_is_integer 3 (aCons (eVar 0) (aCons (eC (.int 3)) (aCons (eC (.int 7)) aNil)))))) (sSeq (sRaise 0)
  sNil) sNil)
  (sSeq (sExpr (eCall m_check_plan 2 (aCons (eVar 0) (aCons (eVar 1) aNil))))
  (sSeq (sExpr (eCall m_check_plan 2 (aCons (eVar 0) (aCons (eVar 2) aNil))))
  (sSeq (sSet .dat 3 (eIf (tOf (eOp (cD eqP) (eBc oLen (aCons (eVar 1) aNil)) (eBc oLen (aCons (eVar 2) aNil)))) (eLst (aCons (eTup aNil) aNil)) (eLst aNil)))
  (sSeq (sFor (itR1 (aCons (eVar 0) aNil)) (.one 4) (sSeq (sSet .own 5 (eLst aNil))
  (sSeq (sFor (itSeq (eVar 3)) (.one 6) (sSeq (sFor (itR1 (aCons (eVar 0) aNil)) (.one 7) (sSeq (sIf (tOf (eOp (cD notInP) (eVar 7) (eVar 6))) (sSeq (sSet .dat 8 (eOp oAdd (eVar 6) (eTup (aCons (eVar 7) aNil))))
  (sSeq (sIf (tOf (eBc oAll (aCons (eLc (itSeq (eVar 1)) [9] (.one 9) (tOf (eOp (cD eqP) (eOp oIx (eVar 9) (eC (.int 2))) (eVar 4))) (eCall m_goes 3 (aCons (eVar 9) (aCons (eVar 8) (aCons (eVar 2) aNil))))) aNil))) (sSeq (sApp 5 (eVar 8))
  sNil) sNil)
  sNil)) sNil)
  sNil))
  sNil))
  (sFrz 5 (sSeq (sSet .dat 3 (eVar 5))
  sNil)))))
  (sSeq (sRet (eIf (tOf (eOp (cD neP) (eVar 3) (eLst aNil))) (eOp oIx (eVar 3) (eC (.int 0))) (eC .none)))
  sNil))))))
end PM
set_option maxHeartbeats 1000000
/-! The data layer: dicts of ints. -/
namespace DL
open PySem L2 PySem.W PySem.SeqAt
def putM (kvs : List (Int × PyData)) (k : Int) (v : PyData) : List (Int × PyData) :=
  if (kvs.any fun kv => decide (kv.1 = k)) = true then kvs.map (fun kv => if kv.1 = k then (kv.1, v) else kv) else kvs ++ [(k, v)]
def getM (kvs : List (Int × PyData)) (k : Int) : Option PyData := (kvs.find? fun kv => decide (kv.1 = k)).map (·.2)
def okV : PyData → Bool
  | .int _ => true
  | .bool _ => true
  | _ => false
theorem inl_eq {a b : Int} : ((Sum.inl a : Key) = Sum.inl b) = (a = b) := propext ⟨fun h => Sum.inl.inj h, fun h => by rw [h]⟩
theorem enc_any (k : Int) : ∀ kvs : List (Int × PyData), ((encD kvs).any fun kv => decide (kv.1 = Sum.inl k)) = kvs.any fun kv => decide (kv.1 = k)
  | [] => rfl
  | kv :: r => by
    show (decide ((Sum.inl kv.1 : Key) = Sum.inl k) || (encD r).any fun kv => decide (kv.1 = Sum.inl k)) = (decide (kv.1 = k) || r.any fun kv => decide (kv.1 = k))
    rw [enc_any k r, decide_eq_decide.mpr (Iff.of_eq inl_eq)]
theorem enc_put (kvs : List (Int × PyData)) (k : Int) (v : PyData) : putK (encD kvs) (Sum.inl k) (vOf v) = encD (putM kvs k v) := by
  unfold putK putM
  rw [enc_any]
  split
  · unfold encD
    rw [List.map_map, List.map_map]
    refine List.map_congr_left fun kv _ => ?_
    show (if (Sum.inl kv.1 : Key) = Sum.inl k then _ else _) = _
    by_cases h : kv.1 = k
    · rw [if_pos (by rw [h])]
      show _ = (Sum.inl (if kv.1 = k then (kv.1, v) else kv).1, vOf (if kv.1 = k then (kv.1, v) else kv).2)
      rw [if_pos h]
    · rw [if_neg (fun z => h (Sum.inl.inj z))]
      show _ = (Sum.inl (if kv.1 = k then (kv.1, v) else kv).1, vOf (if kv.1 = k then (kv.1, v) else kv).2)
      rw [if_neg h]
  · unfold encD
    rw [List.map_append]
    rfl
theorem enc_get (k : Int) : ∀ kvs : List (Int × PyData), valV (encD kvs) (Sum.inl k) = (getM kvs k).map vOf
  | [] => rfl
  | kv :: r => by
    by_cases h : kv.1 = k
    · rw [show encD (kv :: r) = (Sum.inl kv.1, vOf kv.2) :: encD r from rfl, valV_pos (by show (Sum.inl kv.1 : Key) = _; rw [h])]
      simp [getM, h]
    · rw [show encD (kv :: r) = (Sum.inl kv.1, vOf kv.2) :: encD r from rfl, valV_neg (by intro z; exact h (Sum.inl.inj z)), enc_get k r]
      simp [getM, h]
theorem okV_rp {F : Addr → Prop} {H : Hp} {d : PyData} (h : okV d = true) : Rp F H (vOf d) d := by
  cases d <;> first | exact .int _ | exact .bl _ | cases h
theorem okV_eq {F : Addr → Prop} {H : Hp} {v : V} {d : PyData} (h : okV d = true) (r : Rp F H v d) : v = vOf d := by
  cases d <;> first | (cases r; rfl) | cases h
section
variable {wd : Wd} {G0 G G' : Gh} {σ : L2.St} {H0 H H' : Hp} {δ : En} {S S' : Sto}
/-- a new dict -/
theorem StJ.setDic (s : StJ wd G0 H0 G σ H δ S) {i : Nat} {p : Addr} (hp : H p = none) :
    StJ wd G0 H0 { G with F := fun a => G.F a ∧ a ≠ p } (σ.set i (some (.ref p))) (upd H p (.dK [])) (δ.set i (some (.dic []))) S ∧ Keep G H { G with F := fun a => G.F a ∧ a ≠ p } (upd H p (.dK [])) := by
  have gn := Grow.new (o := .dK []) s.ok hp
  have s1 := s.grow gn
  have nep : ∀ a o, H a = some o → a ≠ p := fun a o h => ne_of_none h hp
  have h0 : H0 p = none := s.fr.none_of hp
  have fp : G.F p := s.ok.fresh p hp
  have nm : ¬ G.M p := fun m => s.ok.mF p m fp
  have kp : Keep G H { G with F := fun a => G.F a ∧ a ≠ p } (upd H p (.dK [])) := ⟨fun a xs f h => ⟨⟨f, nep a _ h⟩, (gn.lst s.ok f h).2⟩, fun a xs h => gn.tup s.ok h, fun _ h => h, fun _ t h => ⟨t.2, h⟩, fun a ks f h => ⟨⟨f, nep a _ h⟩, gn.same a _ h fun m => s.ok.mF a m f⟩⟩
  have okF : GOk wd { G with F := fun a => G.F a ∧ a ≠ p } (upd H p (.dK [])) S := s1.ok.withF _ (fun q hq => ⟨s1.ok.fresh q hq, fun z => by rw [z, upd_same] at hq; cases hq⟩) (fun a m f => s1.ok.mF a m f.1)
  refine ⟨⟨s.fr0, ⟨okF, fun a f => s1.fr.sub a f.1, fun a o h f => ⟨s1.fr.keep a o h f, fun z => by rw [z, h0] at h; cases h⟩, s1.fr.same, s1.fr.mem, s1.fr.there, s1.fr.ta, s1.fr.oa⟩, fun j x e => ?_, fun j xs e => ?_, fun j l xs ys a e1 e2 e3 e4 => ?_, by simpa using s.len, ⟨fun j ks e => ?_, fun j l k1 k2 a e1 e2 e3 e4 => ?_⟩⟩, kp⟩
  · rcases getset e with ⟨rfl, hl, e⟩ | ⟨hn, e⟩
    · cases e
    · obtain ⟨w, e1, r1⟩ := s.at_ j x e
      exact ⟨w, by rw [List.getElem?_set_ne hn]; exact e1, kp.rpU r1⟩
  · rcases getset e with ⟨rfl, hl, e⟩ | ⟨hn, e⟩
    · cases e
    · obtain ⟨a, ws, e1, e2, r, nf, nm', n0⟩ := s.own j xs e
      exact ⟨a, ws, by rw [List.getElem?_set_ne hn]; exact e1, gn.same a _ e2 nm', kp.rpAll r, fun f => nf f.1, nm', n0⟩
  · rcases getset e1 with ⟨rfl, hl, e⟩ | ⟨hn, e1⟩
    · cases e
    · rcases getset e2 with ⟨rfl, hl, e⟩ | ⟨hn2, e2⟩
      · cases e
      · rw [List.getElem?_set_ne hn] at e3
        rw [List.getElem?_set_ne hn2] at e4
        exact s.ap j l xs ys a e1 e2 e3 e4
  · rcases getset e with ⟨rfl, hl, e⟩ | ⟨hn, e⟩
    · cases e
      exact ⟨p, List.getElem?_set_self (by have := s.len; omega), upd_same, fun f => f.2 rfl, nm, h0⟩
    · obtain ⟨a, e1, e2, nf, nm', n0⟩ := s.dic.1 j ks e
      exact ⟨a, by rw [List.getElem?_set_ne hn]; exact e1, gn.same a _ e2 nm', fun f => nf f.1, nm', n0⟩
  · rcases getset e1 with ⟨rfl, hl, e⟩ | ⟨hn, e1⟩
    · cases e
      rcases getset e2 with ⟨rfl, hl, e⟩ | ⟨hn2, e2⟩
      · rfl
      · rw [List.getElem?_set_ne hn2] at e4
        rw [List.getElem?_set_self (by have := s.len; omega)] at e3
        cases e3
        obtain ⟨b, f1, f2, _⟩ := s.dic.1 l k2 e2
        rw [f1] at e4
        cases e4
        rw [hp] at f2; cases f2
    · rcases getset e2 with ⟨rfl, hl, e⟩ | ⟨hn2, e2⟩
      · cases e
        rw [List.getElem?_set_ne hn] at e3
        rw [List.getElem?_set_self (by have := s.len; omega)] at e4
        cases e4
        obtain ⟨b, f1, f2, _⟩ := s.dic.1 j k1 e1
        rw [f1] at e3
        cases e3
        rw [hp] at f2; cases f2
      · rw [List.getElem?_set_ne hn] at e3
        rw [List.getElem?_set_ne hn2] at e4
        exact s.dic.2 j l k1 k2 a e1 e2 e3 e4
/-- a dict of the frame is changed -/
theorem StJ.updDic (s : StJ wd G0 H0 G σ H δ S) {i : Nat} {a : Addr} {ks ks' : List (Int × PyData)} (hi : δ[i]? = some (some (.dic ks))) (ha : σ[i]? = some (some (.ref a))) :
    StJ wd G0 H0 G σ (upd H a (.dK (encD ks'))) (δ.set i (some (.dic ks'))) S ∧ Keep G H G (upd H a (.dK (encD ks'))) := by
  obtain ⟨a', e1, hl, nf, nm, n0⟩ := s.dic.1 i ks hi
  rw [ha] at e1
  cases e1
  have ne : ∀ b o, H b = some o → b ≠ a → upd H a (.dK (encD ks')) b = some o := fun b o e n => by rw [upd_ne n]; exact e
  have kp : Keep G H G (upd H a (.dK (encD ks'))) := ⟨fun b ys f h => ⟨f, ne b _ h (fun z => nf (z ▸ f))⟩, fun b ys h => ne b _ h (fun z => by rw [z, hl] at h; cases h), fun _ h => h, fun _ t h => ⟨t.2, h⟩, fun b ks f h => ⟨f, ne b _ h (fun z => nf (z ▸ f))⟩⟩
  have ok2 := s.ok.updD (vs' := encD ks') hl nm
  refine ⟨⟨s.fr0, ⟨ok2, s.fr.sub, s.fr.keep, fun b o h m => ne b o (s.fr.same b o h m) (ne_of_none h n0), s.fr.mem, fun b o h => ?_, s.fr.ta, s.fr.oa⟩, fun j x e => ?_, fun j ys e => ?_, fun j l ys zs b e1 e2 e3 e4 => ?_, by simpa using s.len, ⟨fun j ys e => ?_, fun j l k1 k2 b e1 e2 e3 e4 => ?_⟩⟩, kp⟩
  · obtain ⟨o', e⟩ := s.fr.there b o h
    exact ⟨o', ne b o' e (ne_of_none h n0)⟩
  · rcases getset e with ⟨rfl, hl, e⟩ | ⟨hn, e⟩
    · cases e
    · obtain ⟨w, e1, r1⟩ := s.at_ j x e
      exact ⟨w, e1, kp.rpU r1⟩
  · rcases getset e with ⟨rfl, hl', e⟩ | ⟨hn, e⟩
    · cases e
    · obtain ⟨b, ws, e1, e2, r1, nf', nm', n0'⟩ := s.own j ys e
      exact ⟨b, ws, e1, ne b _ e2 (fun z => by rw [z, hl] at e2; cases e2), kp.rpAll r1, nf', nm', n0'⟩
  · rcases getset e1 with ⟨rfl, hl, e⟩ | ⟨hn, e1⟩
    · cases e
    · rcases getset e2 with ⟨rfl, hl, e⟩ | ⟨hn2, e2⟩
      · cases e
      · exact s.ap j l ys zs b e1 e2 e3 e4
  · rcases getset e with ⟨rfl, hl', e⟩ | ⟨hn, e⟩
    · cases e
      exact ⟨a, ha, upd_same, nf, nm, n0⟩
    · obtain ⟨b, e1, e2, nf', nm', n0'⟩ := s.dic.1 j ys e
      have hba : b ≠ a := fun z => hn (s.dic.2 i j ks ys a hi e ha (z ▸ e1))
      exact ⟨b, e1, ne b _ e2 hba, nf', nm', n0'⟩
  · have f1 : ∃ us, δ[j]? = some (some (.dic us)) := by
      rcases getset e1 with ⟨rfl, hl, e⟩ | ⟨hn, e1⟩
      · exact ⟨ks, hi⟩
      · exact ⟨_, e1⟩
    have f2 : ∃ us, δ[l]? = some (some (.dic us)) := by
      rcases getset e2 with ⟨rfl, hl, e⟩ | ⟨hn, e2⟩
      · exact ⟨ks, hi⟩
      · exact ⟨_, e2⟩
    obtain ⟨u1, f1⟩ := f1
    obtain ⟨u2, f2⟩ := f2
    exact s.dic.2 j l u1 u2 b f1 f2 e3 e4
/-- a dict is not changed any more -/
def frzD (i : Nat) (δ : En) : En := match δ[i]? with
  | some (some (.dic ks)) => δ.set i (some (.u (.m ks)))
  | _ => δ
theorem StJ.frzD (s : StJ wd G0 H0 G σ H δ S) (i : Nat) : ∃ G', StJ wd G0 H0 G' σ H (frzD i δ) S ∧ Keep G H G' H := by
  unfold DL.frzD
  split
  · rename_i ks hi
    obtain ⟨a, ha, hl, nf, nm, n0⟩ := s.dic.1 i ks hi
    have kp : Keep G H { G with F := fun b => G.F b ∨ b = a } H := ⟨fun b ys f h => ⟨.inl f, h⟩, fun b ys h => h, fun _ h => h, fun _ t h => ⟨t.2, h⟩, fun b ks f h => ⟨.inl f, h⟩⟩
    refine ⟨{ G with F := fun b => G.F b ∨ b = a }, ⟨s.fr0, ⟨s.ok.withF _ (fun p hp => .inl (s.ok.fresh p hp)) (fun b m f => ?_), fun b f => ?_, fun b o h f => .inl (s.fr.keep b o h f), s.fr.same, s.fr.mem, s.fr.there, s.fr.ta, s.fr.oa⟩, fun j x e => ?_, fun j ys e => ?_, fun j l ys zs b e1 e2 e3 e4 => ?_, by simpa using s.len, ⟨fun j ys e => ?_, fun j l k1 k2 b e1 e2 e3 e4 => ?_⟩⟩, kp⟩
    · rcases f with f | f
      · exact s.ok.mF b m f
      · exact nm (f ▸ m)
    · rcases f with f | f
      · exact s.fr.sub b f
      · rw [f]; exact s.fr0 a n0
    · rcases getset e with ⟨rfl, hl', e⟩ | ⟨hn, e⟩
      · cases e
        exact ⟨.ref a, ha, a, rfl, .inr rfl, hl⟩
      · obtain ⟨w, e1, r1⟩ := s.at_ j x e
        exact ⟨w, e1, kp.rpU r1⟩
    · rcases getset e with ⟨rfl, hl', e⟩ | ⟨hn, e⟩
      · cases e
      · obtain ⟨b, ws, e1, e2, r1, nf', nm', n0'⟩ := s.own j ys e
        refine ⟨b, ws, e1, e2, kp.rpAll r1, fun f => ?_, nm', n0'⟩
        rcases f with f | f
        · exact nf' f
        · rw [f, hl] at e2; cases e2
    · rcases getset e1 with ⟨rfl, hl, e⟩ | ⟨hn, e1⟩
      · cases e
      · rcases getset e2 with ⟨rfl, hl, e⟩ | ⟨hn2, e2⟩
        · cases e
        · exact s.ap j l ys zs b e1 e2 e3 e4
    · rcases getset e with ⟨rfl, hl', e⟩ | ⟨hn, e⟩
      · cases e
      · obtain ⟨b, e1, e2, nf', nm', n0'⟩ := s.dic.1 j ys e
        refine ⟨b, e1, e2, fun f => ?_, nm', n0'⟩
        rcases f with f | f
        · exact nf' f
        · exact hn (s.dic.2 i j ks ys a hi e ha (f ▸ e1))
    · rcases getset e1 with ⟨rfl, hl, e⟩ | ⟨hn, e1⟩
      · cases e
      · rcases getset e2 with ⟨rfl, hl, e⟩ | ⟨hn2, e2⟩
        · cases e
        · exact s.dic.2 j l k1 k2 b e1 e2 e3 e4
  · exact ⟨G, s, Keep.refl⟩
end
section
variable {g : Gb} {W : WX} {ι : Type} {Xf : ι → Cx} {k : Nat}
def sFrzD (i : Nat) (f : SemS) : SemS := fun δ S => f (frzD i δ) S
theorem ss_frzD (i : Nat) {st : List Stmt} {f : SemS} (h : SSs g W Xf st f) : SSs g W Xf st (sFrzD i f) := by
  obtain ⟨t, p1, q1⟩ := h
  refine ⟨t, p1, fun G0 H0 G σ H δ S fl δ' S' D s e k1 k2 k3 => ?_⟩
  obtain ⟨G', s', kp⟩ := s.frzD i
  exact q1 G0 H0 G' σ H (frzD i δ) S fl δ' S' D s' e (fun z G2 σ2 H2 l2 s2 kp2 => k1 z G2 σ2 H2 l2 s2 (kp.trans kp2)) k2 k3
/-- x = {} -/
def sDNew (i : Nat) : SemS := fun δ S => some (.nx, δ.set i (some (.dic [])), S)
theorem ss_dnew (i : Nat) {x : Str} {p pos pos' : Pos} (F : Fm g W k Xf) (hi : ∀ j, (Xf j).N[i]? = some x := by intro _; rfl) (hx : ∀ j, Loc (Xf j).env.scope x := by first | exact fun _ => Or.inl rfl | exact fun _ => Or.inr rfl)
    (hs : ∀ j, swapsWith (.Dict [] [] p) (some (.Name x pos')) pos.line (Xf j).env = pure false := by intro _; rfl) (hf : ∀ j, (Xf j).fn x = true ∨ (Xf j).env.scope.names.lookup x = some .local := by first | exact fun _ => Or.inl rfl | exact fun _ => Or.inr rfl) :
    SS g W Xf (.Assign [.Name x pos'] (.Dict [] [] p) pos) (sDNew i) :=
  ⟨tAsg tDNewK (gName i), set_ok i F (fun _ => pe_dnewK) hi hx hs hf, fun G0 H0 G σ H δ S fl δ' S' D s e k1 k2 k3 => by
    unfold sDNew at e
    cases e
    intro p hp
    obtain ⟨s', kp⟩ := s.setDic (i := i) hp
    exact k1 rfl _ _ _ (by simp) s' kp⟩
/-- x[k] = v -/
def sDPutS (i : Nat) (fk fv : SemE) : SemS := fun δ S => match δ[i]? with
  | some (some (.dic ks)) => (match fv δ S with
    | some (.ok (.d v), S1) => (match fk δ S1 with
      | some (.ok (.d (.int n)), S2) => if okV v = true ∧ ks.length < LIM then some (.nx, δ.set i (some (.dic (putM ks n v))), S2) else none
      | _ => none)
    | _ => none)
  | _ => none
theorem ss_dput (i : Nat) {x : Str} {ek ev : Expr} {fk fv : SemE} {p pos pos' : Pos} (F : Fm g W k Xf) (hk : SE g W Xf ek fk) (hv : SE g W Xf ev fv) (hN : ∀ j, (Xf j).N[i]? = some x := by intro _; rfl)
    (hvis : ∀ j, Vis (Xf j).env.scope x := by first | exact fun _ => Or.inl rfl | exact fun _ => Or.inr (Or.inl rfl) | exact fun _ => Or.inr (Or.inr rfl)) (hd : (x == ("__debug__" : Str)) = false := by decide) (hcd : (x == ("__classdict__" : Str)) = false := by decide)
    (hs : ∀ j, swapsWith ev (some (.Subscript (.Name x p) ek pos')) pos.line (Xf j).env = pure false := by intro _; rfl) :
    SS g W Xf (.Assign [.Subscript (.Name x p) ek pos'] ev pos) (sDPutS i fk fv) := by
  obtain ⟨tk, p1, q1⟩ := hk
  obtain ⟨tv, p2, q2⟩ := hv
  refine ⟨sDPut (tVar i) tk tv, fun j => ps_dput (by have := (F.room j).un; omega) (pe_var (hN j) (hvis j) hd hcd) (p1 j) (p2 j) (hs j), fun G0 H0 G σ H δ S fl δ' S' D s e k1 k2 k3 => ?_⟩
  unfold sDPutS at e
  split at e
  · rename_i ks hi
    split at e
    · rename_i v S1 h1
      split at e
      · rename_i n S2 h2
        split at e
        · rename_i hc
          cases e
          refine evN q2 s h1 (fun u' eu x1 G1 H1 s1 kp1 rv => ?_) (fun c z => nomatch z)
          cases eu
          obtain ⟨a, ha, _⟩ := s1.dic.1 i ks hi
          refine ⟨.ref a, ha, ?_⟩
          refine evN q1 s1 h2 (fun u' eu y G2 H2 s2 kp2 ry => ?_) (fun c z => nomatch z)
          cases eu
          cases ry
          obtain ⟨a', ha', hl, nf, nm, n0⟩ := s2.dic.1 i ks hi
          rw [ha] at ha'
          cases ha'
          obtain ⟨s3, kp3⟩ := s2.updDic (ks' := putM ks n v) hi ha
          have hx : x1 = vOf v := okV_eq hc.1 rv
          refine ⟨a, _, rfl, DPut.k (k := Sum.inl n) hl (by unfold encD; rw [List.length_map]; exact lim_lt hc.2), ?_⟩
          rw [hx, enc_put]
          exact k1 rfl G2 σ _ rfl s3 (kp1.trans (kp2.trans kp3))
        · cases e
      · cases e
    · cases e
  · cases e
/-- x[k], the dict not changed any more -/
def oDGet : U → U → Option U
  | .m ks, .d (.int n) => (match getM ks n with
    | some v => if okV v = true then some (.d v) else none
    | none => none)
  | _, _ => none
def rDGet : R2 := fun x y H Q => ∃ a v, x = .ref a ∧ DGet H a y (some v) ∧ Q v H
theorem rdO_dget {wd : Wd} : RdO wd rDGet oDGet := fun G H S x y u w z Q ok rx ry e k => by
  unfold oDGet at e
  split at e
  · rename_i ks n
    split at e
    · rename_i v hv
      split at e
      · rename_i ho
        cases e
        cases ry
        obtain ⟨a, rfl, f, h⟩ := rx
        refine ⟨a, vOf v, rfl, ?_, k _ G H (Grow.refl ok) (okV_rp ho)⟩
        have := DGet.k (k := Sum.inl n) h
        rw [enc_get, hv] at this
        exact this
      · cases e
    · cases e
  · cases e
/-- sorted(x), the dict not changed any more -/
def oSortM : List U → Option U
  | [.m ks] => if ks.length < 64 then some (.d (.list (srtD (ks.map fun kv => PyData.int kv.1)))) else none
  | _ => none
theorem leD_int (a b : Int) : leD (.int a) (.int b) = decide (a ≤ b) := by
  unfold leD
  rw [PySem.W.dataLt_int]
  by_cases h : a ≤ b
  · have : ¬ b < a := by omega
    simp [h, this]
  · have : b < a := by omega
    simp [h, this]
theorem srt_ints {ys ks : List Int} (hp : ys.Perm ks) (hs : ys.Pairwise (· ≤ ·)) : srtD (ks.map PyData.int) = ys.map PyData.int := by
  rw [← srt_eq]
  unfold sortD
  refine List.Perm.eq_of_pairwise (le := fun a b => leD a b = true) (fun a b ha hb h1 h2 => ?_) (List.pairwise_mergeSort leD_trans leD_total _) ?_ ((List.mergeSort_perm _ _).trans (hp.symm.map _))
  · have ha := (List.mergeSort_perm _ _).mem_iff.mp ha
    obtain ⟨i, _, rfl⟩ := List.mem_map.mp ha
    obtain ⟨j, _, rfl⟩ := List.mem_map.mp hb
    rw [leD_int] at h1 h2
    have h1 := of_decide_eq_true h1
    have h2 := of_decide_eq_true h2
    rw [show i = j by omega]
  · rw [List.pairwise_map]
    exact hs.imp fun {a b} h => by rw [leD_int]; exact decide_eq_true h
theorem rp_intsOf {F : Addr → Prop} {H : Hp} : ∀ ys : List Int, RpAll F H (ys.map V.int) (ys.map PyData.int)
  | [] => .nil
  | y :: ys => .cons (.int y) (rp_intsOf ys)
theorem ok_sortM (F : Fm g W k Xf) : CallOkF g Xf (.builtin "sorted") oSortM := by
  refine ⟨_, fun i => call_sortedDI (F.calm i), fun G H S vs us z Q ok rv e k => ?_⟩
  unfold oSortM at e
  split at e
  · rename_i ks
    split at e
    · rename_i hl
      cases e
      obtain ⟨v, rfl, h⟩ := rpUs1 rv
      obtain ⟨a, rfl, f, h⟩ := h
      refine ⟨a, encD ks, ks.map (·.1), rfl, .inl h, by unfold encD; rw [List.map_map, List.map_map]; rfl, by rw [List.length_map]; exact hl, fun ys q hp hs hq => ?_⟩
      have e1 : srtD (ks.map fun kv => PyData.int kv.1) = ys.map PyData.int := by
        rw [← srt_ints hp hs, List.map_map]
        rfl
      exact k _ rfl q _ G _ hq (ok.fresh q hq) (Grow.new ok hq) upd_same (new_lst ok hq (by rw [e1]; exact rp_intsOf ys))
    · cases e
  · cases e
theorem se_dget {a b : Expr} {f h : SemE} {pos : Pos} (F : Fm g W k Xf) (ha : SE g W Xf a f) (hb : SE g W Xf b h) (hs : NoSl b := by exact fun _ _ => rfl) : SE g W Xf (.Subscript a b pos) (eOp oDGet f h) := by
  obtain ⟨t, p1, q1⟩ := ha
  obtain ⟨u, p2, q2⟩ := hb
  exact ⟨tOp rDGet t u, fun i => pe_dget (by have := (F.room i).un; omega) (p1 i) (p2 i) hs, rd_op rdO_dget q1 q2⟩
end
end DL
/-! The meanings of the program's defs. Printed by gen.py. -/
namespace PM
open PySem DL
def m_players_of : SemF := fnSem 4
  (sSeq (sDNew 1)
  (sSeq (sFor (itSeq (eVar 0)) (.one 2) (sSeq (sFor (itSeq (eVar 2)) (.one 3) (sSeq (sDPutS 1 (eVar 3) (eC (.bool true)))
  sNil))
  sNil))
  (sFrzD 1 (sSeq (sRet (eBc oSortM (aCons (eVar 1) aNil)))
  sNil))))
def m_four_list : SemF := fnSem 6
  (sSeq (sSet .dat 1 (eLst (aCons (eTup aNil) aNil)))
  (sSeq (sFor (itSeq (eVar 0)) (.one 2) (sSeq (sSet .dat 1 (eOp oAdd (eVar 1) (eLc (itSeq (eVar 1)) [3] (.one 3) (tOf (eOp (cD ltP) (eBc oLen (aCons (eVar 3) aNil)) (eC (.int 4)))) (eOp oAdd (eVar 3) (eTup (aCons (eVar 2) aNil))))))
  sNil))
  (sSeq (sSet .own 4 (eLst aNil))
  (sSeq (sFor (itSeq (eVar 1)) (.one 3) (sSeq (sIf (tAndS (tOf (eOp (cD eqP) (eBc oLen (aCons (eVar 3) aNil)) (eC (.int 4)))) (tOf (eOp (cD eqP) (eBc oLen (aCons (eCall m_players_of 1 (aCons (eVar 3) aNil)) aNil)) (eC (.int 6))))) (sSeq (sIf (tOf (eBc oAll (aCons (eLc (itSeq (eCall m_players_of 1 (aCons (eVar 3) aNil))) [5] (.one 5) tTrue (eOp (cD eqP) (eBc oLen (aCons (eLc (itSeq (eVar 3)) [2] (.one 2) (tOf (eOp (cD inP) (eVar 5) (eVar 2))) (eC (.int 1))) aNil)) (eC (.int 2)))) aNil))) (sSeq (sApp 4 (eVar 3))
  sNil) sNil)
  sNil) sNil)
  sNil))
  (sSeq (sRet (eBc oSort (aCons (eVar 4) aNil)))
  sNil)))))
def m_fours : SemF := fnSem 2
  (sSeq (sExpr (eCall m_check_plan 2 (aCons (eVar 0) (aCons (eVar 1) aNil))))
  (sSeq (sRet (eCall m_four_list 1 (aCons (eVar 1) aNil)))
  sNil))
def m_opposite : SemF := fnSem 7
  (sSeq (sPar .dat 1 (eCall m_pairs_met 1 (aCons (eVar 0) aNil)) .dat 2 (eCall m_players_of 1 (aCons (eVar 0) aNil)))
  (sSeq (sDNew 3)
  (sSeq (sFor (itSeq (eVar 2)) (.one 4) (sSeq (sFor (itSeq (eVar 2)) (.one 5) (sSeq (sIf (tAndS (tOf (eOp (cD neP) (eVar 4) (eVar 5))) (tOf (eOp (cD notInP) (eTup (aCons (eBc oMin2 (aCons (eVar 4) (aCons (eVar 5) aNil))) (aCons (eBc oMax2 (aCons (eVar 4) (aCons (eVar 5) aNil))) aNil))) (eVar 1)))) (sSeq (sDPutS 3 (eVar 4) (eVar 5))
  sNil) sNil)
  sNil))
  sNil))
  (sFrzD 3 (sSeq (sRet (eLc (itSeq (eVar 0)) [6] (.one 6) tTrue (eBc oTuple (aCons (eBc oSort (aCons (eLc (itSeq (eVar 6)) [4] (.one 4) tTrue (eOp oDGet (eVar 3) (eVar 4))) aNil)) aNil))))
  sNil)))))
def m_exchanged : SemF := fnSem 5
  (sSeq (sExpr (eCall m_check_plan 2 (aCons (eVar 0) (aCons (eVar 1) aNil))))
  (sSeq (sIf (tOrS (tNotS (tOf (eIsT .tuple (eVar 2)))) (tOf (eOp (cD notInP) (eVar 2) (eCall m_four_list 1 (aCons (eVar 1) aNil))))) (sSeq (sRaise 4)
  sNil) sNil)
  (sSeq (sSet .dat 3 (eLc (itSeq (eVar 1)) [4] (.one 4) (tOf (eOp (cD notInP) (eVar 4) (eVar 2))) (eVar 4)))
  (sSeq (sRet (eBc oTuple (aCons (eBc oSort (aCons (eOp oAdd (eVar 3) (eCall m_opposite 1 (aCons (eVar 2) aNil))) aNil)) aNil)))
  sNil))))
def m__law_small_ones : SemF := fnSem 3
  (sSeq (sSet .dat 0 (eTup (aCons (eTup (aCons (eC (.int 0)) (aCons (eC (.int 1)) (aCons (eC (.int 2)) aNil)))) (aCons (eTup (aCons (eC (.int 0)) (aCons (eC (.int 3)) (aCons (eC (.int 4)) aNil)))) aNil))))
  (sSeq (sIf (tOrS (tOf (eOp (cD isNotP) (eCall m_is_plan 2 (aCons (eC (.int 5)) (aCons (eVar 0) aNil))) (eC (.bool true)))) (tOf (eOp (cD neP) (eCall m_pairs_left 2 (aCons (eC (.int 4)) (aCons (eTup (aCons (eTup (aCons (eC (.int 0)) (aCons (eC (.int 1)) (aCons (eC (.int 2)) aNil)))) aNil)) aNil))) (eLst (aCons (eTup (aCons (eC (.int 0)) (aCons (eC (.int 3)) aNil))) (aCons (eTup (aCons (eC (.int 1)) (aCons (eC (.int 3)) aNil))) (aCons (eTup (aCons (eC (.int 2)) (aCons (eC (.int 3)) aNil))) aNil))))))) (sSeq (sRet (eC (.bool false)))
  sNil) sNil)
  (sSeq (sIf (tOf (eOp (cD neP) (eCall m_partners 3 (aCons (eC (.int 5)) (aCons (eVar 0) (aCons (eC (.int 1)) aNil)))) (eLst (aCons (eC (.int 0)) (aCons (eC (.int 2)) aNil))))) (sSeq (sRet (eC (.bool false)))
  sNil) sNil)
  (sSeq (sIf (tOrS (tOf (eOp (cD neP) (eCall m_open_threes 2 (aCons (eC (.int 5)) (aCons (eTup (aCons (eTup (aCons (eC (.int 0)) (aCons (eC (.int 1)) (aCons (eC (.int 2)) aNil)))) aNil)) aNil))) (eLst (aCons (eTup (aCons (eC (.int 0)) (aCons (eC (.int 3)) (aCons (eC (.int 4)) aNil)))) (aCons (eTup (aCons (eC (.int 1)) (aCons (eC (.int 3)) (aCons (eC (.int 4)) aNil)))) (aCons (eTup (aCons (eC (.int 2)) (aCons (eC (.int 3)) (aCons (eC (.int 4)) aNil)))) aNil)))))) (tOf (eOp (cD neP) (eCall m_completion 2 (aCons (eC (.int 5)) (aCons (eTup (aCons (eTup (aCons (eC (.int 0)) (aCons (eC (.int 1)) (aCons (eC (.int 2)) aNil)))) aNil)) aNil))) (eVar 0)))) (sSeq (sRet (eC (.bool false)))
  sNil) sNil)
  (sSeq (sIf (tOrS (tOf (eOp (cD isNotP) (eCall m_is_full 2 (aCons (eC (.int 3)) (aCons (eTup (aCons (eTup (aCons (eC (.int 0)) (aCons (eC (.int 1)) (aCons (eC (.int 2)) aNil)))) aNil)) aNil))) (eC (.bool true)))) (tOrS (tOf (eOp (cD neP) (eCall m_full_plan 2 (aCons (eC (.int 3)) (aCons (eTup aNil) aNil))) (eTup (aCons (eTup (aCons (eC (.int 0)) (aCons (eC (.int 1)) (aCons (eC (.int 2)) aNil)))) aNil)))) (tOf (eOp (cD neP) (eCall m_count_full 2 (aCons (eC (.int 7)) (aCons (eTup aNil) aNil))) (eC (.int 30)))))) (sSeq (sRet (eC (.bool false)))
  sNil) sNil)
  (sSeq (sSet .dat 1 (eTup (aCons (eTup (aCons (eC (.int 0)) (aCons (eC (.int 1)) (aCons (eC (.int 2)) aNil)))) (aCons (eTup (aCons (eC (.int 0)) (aCons (eC (.int 3)) (aCons (eC (.int 4)) aNil)))) (aCons (eTup (aCons (eC (.int 1)) (aCons (eC (.int 3)) (aCons (eC (.int 5)) aNil)))) (aCons (eTup (aCons (eC (.int 2)) (aCons (eC (.int 4)) (aCons (eC (.int 5)) aNil)))) aNil))))))
  (sSeq (sSet .dat 2 (eTup (aCons (eTup (aCons (eC (.int 0)) (aCons (eC (.int 1)) (aCons (eC (.int 3)) aNil)))) (aCons (eTup (aCons (eC (.int 0)) (aCons (eC (.int 2)) (aCons (eC (.int 4)) aNil)))) (aCons (eTup (aCons (eC (.int 1)) (aCons (eC (.int 2)) (aCons (eC (.int 5)) aNil)))) (aCons (eTup (aCons (eC (.int 3)) (aCons (eC (.int 4)) (aCons (eC (.int 5)) aNil)))) aNil))))))
  (sSeq (sIf (tOrS (tOf (eOp (cD neP) (eCall m_fours 2 (aCons (eC (.int 6)) (aCons (eVar 1) aNil))) (eLst (aCons (eVar 1) aNil)))) (tOrS (tOf (eOp (cD neP) (eCall m_exchanged 3 (aCons (eC (.int 6)) (aCons (eVar 1) (aCons (eVar 1) aNil)))) (eVar 2))) (tOf (eOp (cD neP) (eCall m_exchanged 3 (aCons (eC (.int 6)) (aCons (eVar 2) (aCons (eVar 2) aNil)))) (eVar 1))))) (sSeq (sRet (eC (.bool false)))
  sNil) sNil)
  (sSeq (sIf (tOrS (tOf (eOp (cD isNotP) (eCall m_is_day 2 (aCons (eC (.int 6)) (aCons (eTup (aCons (eTup (aCons (eC (.int 0)) (aCons (eC (.int 1)) (aCons (eC (.int 2)) aNil)))) (aCons (eTup (aCons (eC (.int 3)) (aCons (eC (.int 4)) (aCons (eC (.int 5)) aNil)))) aNil))) aNil))) (eC (.bool true)))) (tOf (eOp (cD neP) (eCall m_days_in 2 (aCons (eC (.int 6)) (aCons (eTup (aCons (eTup (aCons (eC (.int 0)) (aCons (eC (.int 1)) (aCons (eC (.int 2)) aNil)))) (aCons (eTup (aCons (eC (.int 3)) (aCons (eC (.int 4)) (aCons (eC (.int 5)) aNil)))) aNil))) aNil))) (eLst (aCons (eTup (aCons (eTup (aCons (eC (.int 0)) (aCons (eC (.int 1)) (aCons (eC (.int 2)) aNil)))) (aCons (eTup (aCons (eC (.int 3)) (aCons (eC (.int 4)) (aCons (eC (.int 5)) aNil)))) aNil))) aNil))))) (sSeq (sRet (eC (.bool false)))
  sNil) sNil)
  (sSeq (sIf (tOrS (tOf (eOp (cD neP) (eCall m_into_days 2 (aCons (eC (.int 3)) (aCons (eTup (aCons (eTup (aCons (eC (.int 0)) (aCons (eC (.int 1)) (aCons (eC (.int 2)) aNil)))) aNil)) aNil))) (eLst (aCons (eTup (aCons (eTup (aCons (eC (.int 0)) (aCons (eC (.int 1)) (aCons (eC (.int 2)) aNil)))) aNil)) aNil)))) (tOf (eOp (cD neP) (eCall m_renamed 3 (aCons (eC (.int 4)) (aCons (eTup (aCons (eTup (aCons (eC (.int 0)) (aCons (eC (.int 1)) (aCons (eC (.int 2)) aNil)))) aNil)) (aCons (eTup (aCons (eC (.int 3)) (aCons (eC (.int 0)) (aCons (eC (.int 1)) (aCons (eC (.int 2)) aNil))))) aNil)))) (eTup (aCons (eTup (aCons (eC (.int 0)) (aCons (eC (.int 1)) (aCons (eC (.int 3)) aNil)))) aNil))))) (sSeq (sRet (eC (.bool false)))
  sNil) sNil)
  (sSeq (sRet (eAnd (eOp (cD eqP) (eCall m_names_between 3 (aCons (eC (.int 4)) (aCons (eTup (aCons (eTup (aCons (eC (.int 0)) (aCons (eC (.int 1)) (aCons (eC (.int 2)) aNil)))) aNil)) (aCons (eTup (aCons (eTup (aCons (eC (.int 1)) (aCons (eC (.int 2)) (aCons (eC (.int 3)) aNil)))) aNil)) aNil)))) (eTup (aCons (eC (.int 1)) (aCons (eC (.int 2)) (aCons (eC (.int 3)) (aCons (eC (.int 0)) aNil)))))) (eOp (cD isP) (eCall m_names_between 3 (aCons (eC (.int 4)) (aCons (eTup aNil) (aCons (eTup (aCons (eTup (aCons (eC (.int 1)) (aCons (eC (.int 2)) (aCons (eC (.int 3)) aNil)))) aNil)) aNil)))) (eC .none))))
  sNil)))))))))))
end PM
set_option maxHeartbeats 1000000
/-! The data layer: enumerate of a tuple. -/
namespace DL
open PySem L2 PySem.W
end DL
set_option maxHeartbeats 1000000
/-! The data layer: xs[::2], xs[1::2] of a list of twelve; a dict display of ints. -/
namespace DL
open PySem L2 PySem.W PySem.SeqAt PySem.Spec PyProof.Rows
def ev12 {α : Type} : List α → Option (List α)
  | [a, _, c, _, e, _, g, _, i, _, k, _] => some [a, c, e, g, i, k]
  | _ => none
def od12 {α : Type} : List α → Option (List α)
  | [_, b, _, d, _, f, _, h, _, j, _, l] => some [b, d, f, h, j, l]
  | _ => none
section
variable {g : Gb} {W : WX} {ι : Type} {Xf : ι → Cx} {k : Nat}
def eEvens (f : SemE) : SemE := fun δ S => bnd (f δ S) fun x S => match x with
  | .d (.list xs) => (match ev12 xs with
    | some ys => some (.ok (.d (.list ys)), S)
    | none => none)
  | _ => none
def eOdds (f : SemE) : SemE := fun δ S => bnd (f δ S) fun x S => match x with
  | .d (.list xs) => (match od12 xs with
    | some ys => some (.ok (.d (.list ys)), S)
    | none => none)
  | _ => none
/-! ### {k: v, ..}, ints -/
def mrgM (acc : List (Int × PyData)) (kvs : List (Int × Int)) : List (Int × PyData) := kvs.foldl (fun acc kv => putM acc kv.1 (.int kv.2)) acc
def eDisp (kvs : List (Int × Int)) : SemE := fun _ S => some (.ok (.m (mrgM [] kvs)), S)
def dispT (kvs : List (Int × Int)) : List (TE × TE) := kvs.map fun kv => (tC (.int kv.1), tC (.int kv.2))
def dispV (kvs : List (Int × Int)) : List (Key × V) := kvs.map fun kv => (Sum.inl kv.1, .int kv.2)
theorem tPairs_c (σ : L2.St) (H : Hp) : ∀ (kvs : List (Int × Int)) (Q : List (V × V) → Hp → Prop), Q (kvs.map fun kv => (.int kv.1, .int kv.2)) H → tPairs (dispT kvs) σ H Q
  | [], Q, h => h
  | kv :: r, Q, h => tPairs_c σ H r (fun ps H3 => Q ((.int kv.1, .int kv.2) :: ps) H3) h
theorem enc_mrg : ∀ (kvs : List (Int × Int)) (acc : List (Int × PyData)), mergeK (encD acc) (dispV kvs) = encD (mrgM acc kvs)
  | [], acc => rfl
  | kv :: r, acc => by
    show mergeK (putK (encD acc) (Sum.inl kv.1) (.int kv.2)) (dispV r) = encD (mrgM (putM acc kv.1 (.int kv.2)) r)
    have : putK (encD acc) (Sum.inl kv.1) (V.int kv.2) = encD (putM acc kv.1 (.int kv.2)) := enc_put acc kv.1 (.int kv.2)
    rw [this]
    exact enc_mrg r (putM acc kv.1 (.int kv.2))
theorem upd_twice (H : Hp) (p : Addr) (a b : HO) : upd (upd H p a) p b = upd H p b := by
  funext q
  by_cases z : q = p
  · rw [z, upd_same, upd_same]
  · rw [upd_ne z, upd_ne z, upd_ne z]
theorem se_disp (kvs : List (Int × Int)) {pos : Pos} {keys : List (Option Expr)} {values : List Expr} (h : ∀ i, PPs (Xf i) pos keys values (dispT kvs)) (hall : keys.all (·.isSome) = true := by rfl) (hl : keys.length = values.length := by rfl) (h0 : keys ≠ [] := by exact fun h => nomatch h)
    (h15 : keys.length ≤ 15 := by decide) (hk : kvs.length ≤ 15 := by decide) : SE g W Xf (.Dict keys values pos) (eDisp kvs) := by
  refine ⟨tDisp (dispT kvs), fun i => pe_disp (h i) hall hl h0 h15, fun G σ H δ S z S' Q s0 e k1 k2 => ?_⟩
  unfold eDisp at e
  cases e
  intro p hp
  refine tPairs_c σ _ kvs _ ⟨upd_same, dispV kvs, ?_, by unfold dispV; rw [List.length_map]; exact hk, ?_⟩
  · unfold dispV
    rw [List.map_map]
    rfl
  · have e1 := enc_mrg kvs []
    have e1 : mergeK [] (dispV kvs) = encD (mrgM [] kvs) := e1
    rw [e1, upd_twice]
    exact k1 _ rfl _ G _ (Grow.new s0.ok hp) ⟨p, rfl, s0.ok.fresh p hp, upd_same⟩
end
@[simp] theorem ap_eEvens (f : SemE) (δ : En) (S : Sto) : eEvens f δ S = (bnd (f δ S) fun x S => match x with
  | .d (.list xs) => (match ev12 xs with
    | some ys => some (.ok (.d (.list ys)), S)
    | none => none)
  | _ => none) := rfl
@[simp] theorem ap_eOdds (f : SemE) (δ : En) (S : Sto) : eOdds f δ S = (bnd (f δ S) fun x S => match x with
  | .d (.list xs) => (match od12 xs with
    | some ys => some (.ok (.d (.list ys)), S)
    | none => none)
  | _ => none) := rfl
@[simp] theorem ap_eDisp (kvs : List (Int × Int)) (δ : En) (S : Sto) : eDisp kvs δ S = some (.ok (.m (mrgM [] kvs)), S) := rfl
end DL
set_option maxHeartbeats 4000000
namespace K10
open PySem L2 DL PM
def topS (i : Nat) : Stmt := PySem.Challenge.pw_threeplans_k10_whole_known_plans.main.body.getD i (.Pass ⟨0, 0, 0, 0⟩)
abbrev st_is_integer : Stmt := topS 10
abbrev N_is_integer : List Str := ["value", "low", "high"]
theorem sc_is_integer : FnScope N_is_integer ["value", "low", "high"] (defScope st_is_integer) := ⟨rfl, rfl, rfl, by decide +kernel, rfl, by decide +kernel, by decide +kernel⟩
abbrev st_check_players : Stmt := topS 11
abbrev N_check_players : List Str := ["players"]
theorem sc_check_players : FnScope N_check_players ["players"] (defScope st_check_players) := ⟨rfl, rfl, rfl, by decide +kernel, rfl, by decide +kernel, by decide +kernel⟩
abbrev st_fits : Stmt := topS 12
abbrev N_fits : List Str := ["players", "value", "one"]
theorem sc_fits : FnScope N_fits ["players", "value"] (defScope st_fits) := ⟨rfl, rfl, rfl, by decide +kernel, rfl, by decide +kernel, by decide +kernel⟩
abbrev st_pairs_of : Stmt := topS 13
abbrev N_pairs_of : List Str := ["three"]
theorem sc_pairs_of : FnScope N_pairs_of ["three"] (defScope st_pairs_of) := ⟨rfl, rfl, rfl, by decide +kernel, rfl, by decide +kernel, by decide +kernel⟩
abbrev st_pairs_met : Stmt := topS 14
abbrev N_pairs_met : List Str := ["plan", "found", "three"]
theorem sc_pairs_met : FnScope N_pairs_met ["plan"] (defScope st_pairs_met) := ⟨rfl, rfl, rfl, by decide +kernel, rfl, by decide +kernel, by decide +kernel⟩
abbrev st_stands : Stmt := topS 15
abbrev N_stands : List Str := ["players", "value", "three", "met", "one", "other"]
theorem sc_stands : FnScope N_stands ["players", "value"] (defScope st_stands) := ⟨rfl, rfl, rfl, by decide +kernel, rfl, by decide +kernel, by decide +kernel⟩
abbrev st_is_plan : Stmt := topS 16
abbrev N_is_plan : List Str := ["players", "value"]
theorem sc_is_plan : FnScope N_is_plan ["players", "value"] (defScope st_is_plan) := ⟨rfl, rfl, rfl, by decide +kernel, rfl, by decide +kernel, by decide +kernel⟩
abbrev st_check_plan : Stmt := topS 17
abbrev N_check_plan : List Str := ["players", "plan"]
theorem sc_check_plan : FnScope N_check_plan ["players", "plan"] (defScope st_check_plan) := ⟨rfl, rfl, rfl, by decide +kernel, rfl, by decide +kernel, by decide +kernel⟩
abbrev st_all_pairs : Stmt := topS 18
abbrev N_all_pairs : List Str := ["players", "found", "one", "other"]
theorem sc_all_pairs : FnScope N_all_pairs ["players"] (defScope st_all_pairs) := ⟨rfl, rfl, rfl, by decide +kernel, rfl, by decide +kernel, by decide +kernel⟩
abbrev st_left_of : Stmt := topS 19
abbrev N_left_of : List Str := ["players", "plan", "met", "pair"]
theorem sc_left_of : FnScope N_left_of ["players", "plan"] (defScope st_left_of) := ⟨rfl, rfl, rfl, by decide +kernel, rfl, by decide +kernel, by decide +kernel⟩
abbrev st_pairs_left : Stmt := topS 20
abbrev N_pairs_left : List Str := ["players", "plan"]
theorem sc_pairs_left : FnScope N_pairs_left ["players", "plan"] (defScope st_pairs_left) := ⟨rfl, rfl, rfl, by decide +kernel, rfl, by decide +kernel, by decide +kernel⟩
abbrev st_is_full : Stmt := topS 21
abbrev N_is_full : List Str := ["players", "plan"]
theorem sc_is_full : FnScope N_is_full ["players", "plan"] (defScope st_is_full) := ⟨rfl, rfl, rfl, by decide +kernel, rfl, by decide +kernel, by decide +kernel⟩
abbrev st_partners : Stmt := topS 22
abbrev N_partners : List Str := ["players", "plan", "player", "one"]
theorem sc_partners : FnScope N_partners ["players", "plan", "player"] (defScope st_partners) := ⟨rfl, rfl, rfl, by decide +kernel, rfl, by decide +kernel, by decide +kernel⟩
abbrev st_open_list : Stmt := topS 24
abbrev N_open_list : List Str := ["players", "plan", "left", "found", "one", "other", "last", "pair"]
theorem sc_open_list : FnScope N_open_list ["players", "plan"] (defScope st_open_list) := ⟨rfl, rfl, rfl, by decide +kernel, rfl, by decide +kernel, by decide +kernel⟩
abbrev st_open_threes : Stmt := topS 25
abbrev N_open_threes : List Str := ["players", "plan"]
theorem sc_open_threes : FnScope N_open_threes ["players", "plan"] (defScope st_open_threes) := ⟨rfl, rfl, rfl, by decide +kernel, rfl, by decide +kernel, by decide +kernel⟩
abbrev st_completion : Stmt := topS 26
abbrev N_completion : List Str := ["players", "plan", "some"]
theorem sc_completion : FnScope N_completion ["players", "plan"] (defScope st_completion) := ⟨rfl, rfl, rfl, by decide +kernel, rfl, by decide +kernel, by decide +kernel⟩
abbrev st_greatest : Stmt := topS 27
abbrev N_greatest : List Str := ["players"]
theorem sc_greatest : FnScope N_greatest ["players"] (defScope st_greatest) := ⟨rfl, rfl, rfl, by decide +kernel, rfl, by decide +kernel, by decide +kernel⟩
abbrev st_full_plans : Stmt := topS 28
abbrev N_full_plans : List Str := ["players", "plan", "found", "line", "here", "left", "one", "other", "last", "three", "pair"]
theorem sc_full_plans : FnScope N_full_plans ["players", "plan"] (defScope st_full_plans) := ⟨rfl, rfl, rfl, by decide +kernel, rfl, by decide +kernel, by decide +kernel⟩
abbrev st_full_plan : Stmt := topS 29
abbrev N_full_plan : List Str := ["players", "plan", "found"]
theorem sc_full_plan : FnScope N_full_plan ["players", "plan"] (defScope st_full_plan) := ⟨rfl, rfl, rfl, by decide +kernel, rfl, by decide +kernel, by decide +kernel⟩
abbrev st_count_full : Stmt := topS 30
abbrev N_count_full : List Str := ["players", "plan"]
theorem sc_count_full : FnScope N_count_full ["players", "plan"] (defScope st_count_full) := ⟨rfl, rfl, rfl, by decide +kernel, rfl, by decide +kernel, by decide +kernel⟩
abbrev st_makes_day : Stmt := topS 32
abbrev N_makes_day : List Str := ["players", "value", "three", "together"]
theorem sc_makes_day : FnScope N_makes_day ["players", "value"] (defScope st_makes_day) := ⟨rfl, rfl, rfl, by decide +kernel, rfl, by decide +kernel, by decide +kernel⟩
abbrev st_is_day : Stmt := topS 33
abbrev N_is_day : List Str := ["players", "value"]
theorem sc_is_day : FnScope N_is_day ["players", "value"] (defScope st_is_day) := ⟨rfl, rfl, rfl, by decide +kernel, rfl, by decide +kernel, by decide +kernel⟩
abbrev st_day_list : Stmt := topS 34
abbrev N_day_list : List Str := ["players", "plan", "some", "again", "longer", "one", "gone", "three", "player"]
theorem sc_day_list : FnScope N_day_list ["players", "plan"] (defScope st_day_list) := ⟨rfl, rfl, rfl, by decide +kernel, rfl, by decide +kernel, by decide +kernel⟩
abbrev st_days_in : Stmt := topS 35
abbrev N_days_in : List Str := ["players", "plan"]
theorem sc_days_in : FnScope N_days_in ["players", "plan"] (defScope st_days_in) := ⟨rfl, rfl, rfl, by decide +kernel, rfl, by decide +kernel, by decide +kernel⟩
abbrev st_into_days : Stmt := topS 36
abbrev N_into_days : List Str := ["players", "plan", "days", "line", "found", "left", "day", "three"]
theorem sc_into_days : FnScope N_into_days ["players", "plan"] (defScope st_into_days) := ⟨rfl, rfl, rfl, by decide +kernel, rfl, by decide +kernel, by decide +kernel⟩
abbrev st_players_of : Stmt := topS 38
abbrev N_players_of : List Str := ["some", "found", "three", "player"]
theorem sc_players_of : FnScope N_players_of ["some"] (defScope st_players_of) := ⟨rfl, rfl, rfl, by decide +kernel, rfl, by decide +kernel, by decide +kernel⟩
abbrev st_four_list : Stmt := topS 39
abbrev N_four_list : List Str := ["plan", "some", "three", "one", "found", "player"]
theorem sc_four_list : FnScope N_four_list ["plan"] (defScope st_four_list) := ⟨rfl, rfl, rfl, by decide +kernel, rfl, by decide +kernel, by decide +kernel⟩
abbrev st_fours : Stmt := topS 40
abbrev N_fours : List Str := ["players", "plan"]
theorem sc_fours : FnScope N_fours ["players", "plan"] (defScope st_fours) := ⟨rfl, rfl, rfl, by decide +kernel, rfl, by decide +kernel, by decide +kernel⟩
abbrev st_opposite : Stmt := topS 41
abbrev N_opposite : List Str := ["four", "met", "some", "against", "player", "other", "three"]
theorem sc_opposite : FnScope N_opposite ["four"] (defScope st_opposite) := ⟨rfl, rfl, rfl, by decide +kernel, rfl, by decide +kernel, by decide +kernel⟩
abbrev st_exchanged : Stmt := topS 42
abbrev N_exchanged : List Str := ["players", "plan", "four", "rest", "three"]
theorem sc_exchanged : FnScope N_exchanged ["players", "plan", "four"] (defScope st_exchanged) := ⟨rfl, rfl, rfl, by decide +kernel, rfl, by decide +kernel, by decide +kernel⟩
abbrev st_named : Stmt := topS 44
abbrev N_named : List Str := ["plan", "names", "player", "three"]
theorem sc_named : FnScope N_named ["plan", "names"] (defScope st_named) := ⟨rfl, rfl, rfl, by decide +kernel, rfl, by decide +kernel, by decide +kernel⟩
abbrev st_renamed : Stmt := topS 45
abbrev N_renamed : List Str := ["players", "plan", "names", "one"]
theorem sc_renamed : FnScope N_renamed ["players", "plan", "names"] (defScope st_renamed) := ⟨rfl, rfl, rfl, by decide +kernel, rfl, by decide +kernel, by decide +kernel⟩
abbrev st_goes : Stmt := topS 47
abbrev N_goes : List Str := ["three", "names", "other", "player"]
theorem sc_goes : FnScope N_goes ["three", "names", "other"] (defScope st_goes) := ⟨rfl, rfl, rfl, by decide +kernel, rfl, by decide +kernel, by decide +kernel⟩
abbrev st_names_between : Stmt := topS 46
abbrev N_names_between : List Str := ["players", "one", "other", "some", "player", "longer", "names", "name", "after", "three"]
theorem sc_names_between : FnScope N_names_between ["players", "one", "other"] (defScope st_names_between) := ⟨rfl, rfl, rfl, by decide +kernel, rfl, by decide +kernel, by decide +kernel⟩
abbrev st__law_cell_at : Stmt := topS 49
abbrev N__law_cell_at : List Str := ["script", "k", "spare", "again"]
theorem sc__law_cell_at : FnScope N__law_cell_at ["script", "k"] (defScope st__law_cell_at) := ⟨rfl, rfl, rfl, by decide +kernel, rfl, by decide +kernel, by decide +kernel⟩
abbrev st__law_mixed : Stmt := topS 50
abbrev N__law_mixed : List Str := ["script", "k", "many", "spun"]
theorem sc__law_mixed : FnScope N__law_mixed ["script", "k", "many"] (defScope st__law_mixed) := ⟨rfl, rfl, rfl, by decide +kernel, rfl, by decide +kernel, by decide +kernel⟩
abbrev st__law_draw : Stmt := topS 51
abbrev N__law_draw : List Str := ["script", "town", "many"]
theorem sc__law_draw : FnScope N__law_draw ["script", "town", "many"] (defScope st__law_draw) := ⟨rfl, rfl, rfl, by decide +kernel, rfl, by decide +kernel, by decide +kernel⟩
abbrev st__law_small_ones : Stmt := topS 52
abbrev N__law_small_ones : List Str := ["two", "six", "other"]
theorem sc__law_small_ones : FnScope N__law_small_ones [] (defScope st__law_small_ones) := ⟨rfl, rfl, rfl, by decide +kernel, rfl, by decide +kernel, by decide +kernel⟩
abbrev st_law : Stmt := topS 53
abbrev N_law : List Str := ["script", "town", "n", "first", "due", "players", "seven", "nine"]
theorem sc_law : FnScope N_law ["script"] (defScope st_law) := ⟨rfl, rfl, rfl, by decide +kernel, rfl, by decide +kernel, by decide +kernel⟩
def s0_law : SemS := (sTown 1)
def s1_law (ns : List Int) : SemS := (sSet .dat 2 (eOp oAdd (eC (.int 3)) (eCall (m__law_draw ns) 3 (aCons (eVar 0) (aCons (eVar 1) (aCons (eC (.int 7)) aNil))))))
def s2_law : SemS := (sSet .dat 3 (eCall m_completion 2 (aCons (eVar 2) (aCons (eTup aNil) aNil))))
def s3_law : SemS := (sSet .dat 4 (eOp oDGet (eDisp [(3, 1), (4, 1), (5, 2), (6, 4), (7, 7), (8, 7), (9, 7)]) (eVar 2)))
def s4_law : SemS := (sIf (tOrS (tOf (eOp (cD neP) (eOp oIx (eVar 3) (eC (.int 0))) (eTup (aCons (eC (.int 0)) (aCons (eC (.int 1)) (aCons (eC (.int 2)) aNil)))))) (tOrS (tOf (eOp (cD gtP) (eBc oLen (aCons (eVar 3) aNil)) (eCall m_greatest 1 (aCons (eVar 2) aNil)))) (tOf (eOp (cD neP) (eCall m_open_threes 2 (aCons (eVar 2) (aCons (eVar 3) aNil))) (eLst aNil))))) (sSeq (sRet (eC (.bool false)))
  sNil) sNil)
def s5_law : SemS := (sIf (tOrS (tAndS (tOf (eOp (cD ltP) (eVar 2) (eC (.int 8)))) (tOf (eOp (cD neP) (eBc oLen (aCons (eVar 3) aNil)) (eVar 4)))) (tAndS (tOf (eOp (cD gtP) (eVar 2) (eC (.int 7)))) (tOf (eOp (cD ltP) (eBc oLen (aCons (eVar 3) aNil)) (eC (.int 4)))))) (sSeq (sRet (eC (.bool false)))
  sNil) sNil)
def s6_law : SemS := (sIf (tOf (eOp (cD neP) (eLc (itSeq (eTup (aCons (eC (.int 4)) (aCons (eC (.int 5)) (aCons (eC (.int 6)) (aCons (eC (.int 8)) aNil)))))) [5] (.one 5) tTrue (eCall m_count_full 2 (aCons (eVar 5) (aCons (eTup aNil) aNil)))) (eOp oMul (eLst (aCons (eC (.int 0)) aNil)) (eC (.int 4))))) (sSeq (sRet (eC (.bool false)))
  sNil) sNil)
def s7_law : SemS := (sIf (tOf (eOp (cD neP) (eCall m_count_full 2 (aCons (eC (.int 9)) (aCons (eTup (aCons (eTup (aCons (eC (.int 0)) (aCons (eC (.int 1)) (aCons (eC (.int 2)) aNil)))) (aCons (eTup (aCons (eC (.int 3)) (aCons (eC (.int 4)) (aCons (eC (.int 5)) aNil)))) (aCons (eTup (aCons (eC (.int 6)) (aCons (eC (.int 7)) (aCons (eC (.int 8)) aNil)))) aNil)))) aNil))) (eC (.int 12)))) (sSeq (sRet (eC (.bool false)))
  sNil) sNil)
def s8_law : SemS := (sSet .dat 6 (eTup (aCons (eTup (aCons (eC (.int 0)) (aCons (eC (.int 1)) (aCons (eC (.int 2)) aNil)))) (aCons (eTup (aCons (eC (.int 0)) (aCons (eC (.int 3)) (aCons (eC (.int 4)) aNil)))) (aCons (eTup (aCons (eC (.int 0)) (aCons (eC (.int 5)) (aCons (eC (.int 6)) aNil)))) (aCons (eTup (aCons (eC (.int 1)) (aCons (eC (.int 3)) (aCons (eC (.int 5)) aNil)))) (aCons (eTup (aCons (eC (.int 1)) (aCons (eC (.int 4)) (aCons (eC (.int 6)) aNil)))) (aCons (eTup (aCons (eC (.int 2)) (aCons (eC (.int 3)) (aCons (eC (.int 6)) aNil)))) (aCons (eTup (aCons (eC (.int 2)) (aCons (eC (.int 4)) (aCons (eC (.int 5)) aNil)))) aNil)))))))))
def s9_law : SemS := (sIf (tOrS (tOf (eOp (cD neP) (eCall m_full_plan 2 (aCons (eC (.int 7)) (aCons (eTup aNil) aNil))) (eVar 6))) (tOrS (tOf (eOp (cD isNotP) (eCall m_is_full 2 (aCons (eC (.int 7)) (aCons (eVar 6) aNil))) (eC (.bool true)))) (tOf (eOp (cD neP) (eBc oLen (aCons (eCall m_fours 2 (aCons (eC (.int 7)) (aCons (eVar 6) aNil))) aNil)) (eC (.int 7)))))) (sSeq (sRet (eC (.bool false)))
  sNil) sNil)
def s10_law : SemS := (sSet .dat 7 (eCall m_full_plan 2 (aCons (eC (.int 9)) (aCons (eTup (aCons (eTup (aCons (eC (.int 0)) (aCons (eC (.int 1)) (aCons (eC (.int 2)) aNil)))) (aCons (eTup (aCons (eC (.int 0)) (aCons (eC (.int 3)) (aCons (eC (.int 6)) aNil)))) (aCons (eTup (aCons (eC (.int 3)) (aCons (eC (.int 4)) (aCons (eC (.int 5)) aNil)))) (aCons (eTup (aCons (eC (.int 6)) (aCons (eC (.int 7)) (aCons (eC (.int 8)) aNil)))) aNil))))) aNil))))
def s11_law : SemS := (sIf (tOrS (tOf (eOp (cD isNotP) (eCall m_is_full 2 (aCons (eC (.int 9)) (aCons (eVar 7) aNil))) (eC (.bool true)))) (tOrS (tOf (eOp (cD neP) (eBc oLen (aCons (eVar 7) aNil)) (eC (.int 12)))) (tOrS (tOf (eOp (cD neP) (eCall m_fours 2 (aCons (eC (.int 9)) (aCons (eVar 7) aNil))) (eLst aNil))) (tOf (eOp (cD neP) (eBc oLen (aCons (eCall m_into_days 2 (aCons (eC (.int 9)) (aCons (eVar 7) aNil))) aNil)) (eC (.int 4))))))) (sSeq (sRet (eC (.bool false)))
  sNil) sNil)
def s12_law : SemS := (sIf (tOrS (tOf (eOp (cD neP) (eOp oIx (eCall m_into_days 2 (aCons (eC (.int 9)) (aCons (eVar 7) aNil))) (eC (.int 0))) (eTup (aCons (eTup (aCons (eC (.int 0)) (aCons (eC (.int 1)) (aCons (eC (.int 2)) aNil)))) (aCons (eTup (aCons (eC (.int 3)) (aCons (eC (.int 4)) (aCons (eC (.int 5)) aNil)))) (aCons (eTup (aCons (eC (.int 6)) (aCons (eC (.int 7)) (aCons (eC (.int 8)) aNil)))) aNil)))))) (tOf (eOp (cD neP) (eBc oLen (aCons (eCall m_days_in 2 (aCons (eC (.int 9)) (aCons (eVar 7) aNil))) aNil)) (eC (.int 4))))) (sSeq (sRet (eC (.bool false)))
  sNil) sNil)
def s13_law : SemS := (sRet (eCall0 m__law_small_ones))
def m_law (ns : List Int) : SemF := fnSem 8
  (sSeq s0_law
  (sSeq (s1_law ns)
  (sSeq s2_law
  (sSeq s3_law
  (sSeq s4_law
  (sSeq s5_law
  (sSeq s6_law
  (sSeq s7_law
  (sSeq s8_law
  (sSeq s9_law
  (sSeq s10_law
  (sSeq s11_law
  (sSeq s12_law
  (sSeq s13_law
  sNil))))))))))))))
structure Top (g : Gb) : Prop where
  b_all : g.mg "all" = none
  b_any : g.mg "any" = none
  b_bool : g.mg "bool" = none
  b_int : g.mg "int" = none
  b_isinstance : g.mg "isinstance" = none
  b_len : g.mg "len" = none
  b_list : g.mg "list" = none
  b_max : g.mg "max" = none
  b_min : g.mg "min" = none
  b_range : g.mg "range" = none
  b_set : g.mg "set" = none
  b_sorted : g.mg "sorted" = none
  b_tuple : g.mg "tuple" = none
  b_zip : g.mg "zip" = none
  x_InvalidFour : ExcF g 4 "InvalidFour" [.type "ValueError", .type "Exception", .type "BaseException", .type "object"]
  x_InvalidNames : ExcF g 5 "InvalidNames" [.type "ValueError", .type "Exception", .type "BaseException", .type "object"]
  x_InvalidPlan : ExcF g 2 "InvalidPlan" [.type "ValueError", .type "Exception", .type "BaseException", .type "object"]
  x_InvalidPlayer : ExcF g 3 "InvalidPlayer" [.type "ValueError", .type "Exception", .type "BaseException", .type "object"]
  x_InvalidPlayers : ExcF g 0 "InvalidPlayers" [.type "ValueError", .type "Exception", .type "BaseException", .type "object"]
  x_NoDays : ExcF g 7 "NoDays" [.type "ValueError", .type "Exception", .type "BaseException", .type "object"]
  x_NoPlan : ExcF g 6 "NoPlan" [.type "ValueError", .type "Exception", .type "BaseException", .type "object"]
  d_is_integer : ∃ f fd, Fun g.wd.K "is_integer" "is_integer" st_is_integer f fd ∧ g.mg "is_integer" = some (.ref f)
  d_check_players : ∃ f fd, Fun g.wd.K "check_players" "check_players" st_check_players f fd ∧ g.mg "check_players" = some (.ref f)
  d_fits : ∃ f fd, Fun g.wd.K "fits" "fits" st_fits f fd ∧ g.mg "fits" = some (.ref f)
  d_pairs_of : ∃ f fd, Fun g.wd.K "pairs_of" "pairs_of" st_pairs_of f fd ∧ g.mg "pairs_of" = some (.ref f)
  d_pairs_met : ∃ f fd, Fun g.wd.K "pairs_met" "pairs_met" st_pairs_met f fd ∧ g.mg "pairs_met" = some (.ref f)
  d_stands : ∃ f fd, Fun g.wd.K "stands" "stands" st_stands f fd ∧ g.mg "stands" = some (.ref f)
  d_is_plan : ∃ f fd, Fun g.wd.K "is_plan" "is_plan" st_is_plan f fd ∧ g.mg "is_plan" = some (.ref f)
  d_check_plan : ∃ f fd, Fun g.wd.K "check_plan" "check_plan" st_check_plan f fd ∧ g.mg "check_plan" = some (.ref f)
  d_all_pairs : ∃ f fd, Fun g.wd.K "all_pairs" "all_pairs" st_all_pairs f fd ∧ g.mg "all_pairs" = some (.ref f)
  d_left_of : ∃ f fd, Fun g.wd.K "left_of" "left_of" st_left_of f fd ∧ g.mg "left_of" = some (.ref f)
  d_pairs_left : ∃ f fd, Fun g.wd.K "pairs_left" "pairs_left" st_pairs_left f fd ∧ g.mg "pairs_left" = some (.ref f)
  d_is_full : ∃ f fd, Fun g.wd.K "is_full" "is_full" st_is_full f fd ∧ g.mg "is_full" = some (.ref f)
  d_partners : ∃ f fd, Fun g.wd.K "partners" "partners" st_partners f fd ∧ g.mg "partners" = some (.ref f)
  d_open_list : ∃ f fd, Fun g.wd.K "open_list" "open_list" st_open_list f fd ∧ g.mg "open_list" = some (.ref f)
  d_open_threes : ∃ f fd, Fun g.wd.K "open_threes" "open_threes" st_open_threes f fd ∧ g.mg "open_threes" = some (.ref f)
  d_completion : ∃ f fd, Fun g.wd.K "completion" "completion" st_completion f fd ∧ g.mg "completion" = some (.ref f)
  d_greatest : ∃ f fd, Fun g.wd.K "greatest" "greatest" st_greatest f fd ∧ g.mg "greatest" = some (.ref f)
  d_full_plans : ∃ f fd, Fun g.wd.K "full_plans" "full_plans" st_full_plans f fd ∧ g.mg "full_plans" = some (.ref f)
  d_full_plan : ∃ f fd, Fun g.wd.K "full_plan" "full_plan" st_full_plan f fd ∧ g.mg "full_plan" = some (.ref f)
  d_count_full : ∃ f fd, Fun g.wd.K "count_full" "count_full" st_count_full f fd ∧ g.mg "count_full" = some (.ref f)
  d_makes_day : ∃ f fd, Fun g.wd.K "makes_day" "makes_day" st_makes_day f fd ∧ g.mg "makes_day" = some (.ref f)
  d_is_day : ∃ f fd, Fun g.wd.K "is_day" "is_day" st_is_day f fd ∧ g.mg "is_day" = some (.ref f)
  d_day_list : ∃ f fd, Fun g.wd.K "day_list" "day_list" st_day_list f fd ∧ g.mg "day_list" = some (.ref f)
  d_days_in : ∃ f fd, Fun g.wd.K "days_in" "days_in" st_days_in f fd ∧ g.mg "days_in" = some (.ref f)
  d_into_days : ∃ f fd, Fun g.wd.K "into_days" "into_days" st_into_days f fd ∧ g.mg "into_days" = some (.ref f)
  d_players_of : ∃ f fd, Fun g.wd.K "players_of" "players_of" st_players_of f fd ∧ g.mg "players_of" = some (.ref f)
  d_four_list : ∃ f fd, Fun g.wd.K "four_list" "four_list" st_four_list f fd ∧ g.mg "four_list" = some (.ref f)
  d_fours : ∃ f fd, Fun g.wd.K "fours" "fours" st_fours f fd ∧ g.mg "fours" = some (.ref f)
  d_opposite : ∃ f fd, Fun g.wd.K "opposite" "opposite" st_opposite f fd ∧ g.mg "opposite" = some (.ref f)
  d_exchanged : ∃ f fd, Fun g.wd.K "exchanged" "exchanged" st_exchanged f fd ∧ g.mg "exchanged" = some (.ref f)
  d_named : ∃ f fd, Fun g.wd.K "named" "named" st_named f fd ∧ g.mg "named" = some (.ref f)
  d_renamed : ∃ f fd, Fun g.wd.K "renamed" "renamed" st_renamed f fd ∧ g.mg "renamed" = some (.ref f)
  d_goes : ∃ f fd, Fun g.wd.K "goes" "goes" st_goes f fd ∧ g.mg "goes" = some (.ref f)
  d_names_between : ∃ f fd, Fun g.wd.K "names_between" "names_between" st_names_between f fd ∧ g.mg "names_between" = some (.ref f)
  d__law_cell_at : ∃ f fd, Fun g.wd.K "_law_cell_at" "_law_cell_at" st__law_cell_at f fd ∧ g.mg "_law_cell_at" = some (.ref f)
  d__law_mixed : ∃ f fd, Fun g.wd.K "_law_mixed" "_law_mixed" st__law_mixed f fd ∧ g.mg "_law_mixed" = some (.ref f)
  d__law_draw : ∃ f fd, Fun g.wd.K "_law_draw" "_law_draw" st__law_draw f fd ∧ g.mg "_law_draw" = some (.ref f)
  d__law_small_ones : ∃ f fd, Fun g.wd.K "_law_small_ones" "_law_small_ones" st__law_small_ones f fd ∧ g.mg "_law_small_ones" = some (.ref f)
  d_law : ∃ f fd, Fun g.wd.K "law" "law" st_law f fd ∧ g.mg "law" = some (.ref f)
section
variable {g : Gb}
theorem k_is_integer (T : Top g) : Fk g 1 "is_integer" 3 m_is_integer := by
  obtain ⟨f, fd, Fd, hm⟩ := T.d_is_integer
  refine fk_mk (j := 0) (N := N_is_integer) (ps := ["value", "low", "high"]) Fd hm sc_is_integer (Fd.binds fun _ _ _ _ _ _ us hl => match us, hl with | [_, _, _], _ => rfl) fun cdv A outer s H E F0 => ?_
  exact (ss_cons (ss_ret (se_and (se_isT .int F0 T.b_isinstance T.b_int (by decide +kernel) (se_var 0)) (se_and (se_not (se_isT .bool F0 T.b_isinstance T.b_bool (by decide +kernel) (se_var 0))) (se_one (se_chain (ok_le F0) (ok_le F0) (se_var 1) (se_var 0) (se_var 2))))))
    ss_nil)
theorem k_check_players (T : Top g) : Fk g 2 "check_players" 1 m_check_players := by
  obtain ⟨f, fd, Fd, hm⟩ := T.d_check_players
  refine fk_mk (j := 1) (N := N_check_players) (ps := ["players"]) Fd hm sc_check_players (Fd.binds fun _ _ _ _ _ _ us hl => match us, hl with | [_], _ => rfl) fun cdv A outer s H E F0 => ?_
  exact (ss_cons (ss_if (st_not (st_val (se_call F0 (k_is_integer T) (sa_cons (se_var 0) (sa_cons se_int (sa_cons se_int sa_nil)))))) (ss_cons (ss_raise 0 F0 T.x_InvalidPlayers PySem.F.excBase_ValueError)
    ss_nil) ss_nil)
    ss_nil)
theorem k_fits (T : Top g) : Fk g 2 "fits" 2 m_fits := by
  obtain ⟨f, fd, Fd, hm⟩ := T.d_fits
  refine fk_mk (j := 1) (N := N_fits) (ps := ["players", "value"]) Fd hm sc_fits (Fd.binds fun _ _ _ _ _ _ us hl => match us, hl with | [_, _], _ => rfl) fun cdv A outer s H E F0 => ?_
  exact (ss_cons (ss_if (SW.st (sw_or (st_not (st_val (se_isT .tuple F0 T.b_isinstance T.b_tuple (by decide +kernel) (se_var 1)))) (sw_or (st_cmp (ok_ne F0) (se_callB F0 T.b_len PySem.boot_len (ok_len F0) (sa_cons (se_var 1) sa_nil)) se_int) (sw_or1 (st_not (st_val (se_callB F0 T.b_all (by decide +kernel) (ok_all F0) (sa_cons (SF.se (sf_lc [("one", 2)] N_fits F0 (si_seq F0 (se_var 1)) (sg_name 2 (F0.blk _)) sq_nil (se_call (F0.blk _) (k_is_integer T) (sa_cons (se_var 2) (sa_cons se_int (sa_cons (se_bin (ok_sub (F0.blk _)) (se_var 0) se_int) sa_nil)))))) sa_nil)))))))) (ss_cons (ss_ret se_bl)
    ss_nil) ss_nil)
    (ss_cons (ss_ret (se_chain (ok_lt F0) (ok_lt F0) (se_ix F0 (se_var 1) se_int) (se_ix F0 (se_var 1) se_int) (se_ix F0 (se_var 1) se_int)))
    ss_nil))
theorem k_pairs_of (T : Top g) : Fk g 1 "pairs_of" 1 m_pairs_of := by
  obtain ⟨f, fd, Fd, hm⟩ := T.d_pairs_of
  refine fk_mk (j := 0) (N := N_pairs_of) (ps := ["three"]) Fd hm sc_pairs_of (Fd.binds fun _ _ _ _ _ _ us hl => match us, hl with | [_], _ => rfl) fun cdv A outer s H E F0 => ?_
  exact (ss_cons (ss_ret (SF.se (sf_lst (sa_cons (se_slice F0 (se_var 0) so_none (so_some se_int)) (sa_cons (se_tup (sa_cons (se_ix F0 (se_var 0) se_int) (sa_cons (se_ix F0 (se_var 0) se_int) sa_nil))) (sa_cons (se_slice F0 (se_var 0) (so_some se_int) so_none) sa_nil))))))
    ss_nil)
theorem k_pairs_met (T : Top g) : Fk g 2 "pairs_met" 1 m_pairs_met := by
  obtain ⟨f, fd, Fd, hm⟩ := T.d_pairs_met
  refine fk_mk (j := 1) (N := N_pairs_met) (ps := ["plan"]) Fd hm sc_pairs_met (Fd.binds fun _ _ _ _ _ _ us hl => match us, hl with | [_], _ => rfl) fun cdv A outer s H E F0 => ?_
  exact (ss_cons (ss_set .own 1 F0 (SF.own (sf_lst sa_nil)))
    (ss_cons (ss_for F0 (si_seq F0 (se_var 0)) (sg_name 2 F0) (ss_cons (ss_extA 1 F0 (se_call F0 (k_pairs_of T) (sa_cons (se_var 2) sa_nil)))
    ss_nil))
    (ss_cons (ss_ret (se_var 1))
    ss_nil)))
theorem k_stands (T : Top g) : Fk g 3 "stands" 2 m_stands := by
  obtain ⟨f, fd, Fd, hm⟩ := T.d_stands
  refine fk_mk (j := 2) (N := N_stands) (ps := ["players", "value"]) Fd hm sc_stands (Fd.binds fun _ _ _ _ _ _ us hl => match us, hl with | [_, _], _ => rfl) fun cdv A outer s H E F0 => ?_
  exact (ss_cons (ss_if (SW.st (sw_or (st_not (st_val (se_isT .tuple F0 T.b_isinstance T.b_tuple (by decide +kernel) (se_var 1)))) (sw_or1 (st_not (st_val (se_callB F0 T.b_all (by decide +kernel) (ok_all F0) (sa_cons (SF.se (sf_lc [("three", 2)] N_stands F0 (si_seq F0 (se_var 1)) (sg_name 2 (F0.blk _)) sq_nil (se_call (F0.blk _) (k_fits T) (sa_cons (se_var 0) (sa_cons (se_var 2) sa_nil))))) sa_nil))))))) (ss_cons (ss_ret se_bl)
    ss_nil) ss_nil)
    (ss_cons (ss_set .dat 3 F0 (SE.dat (se_call F0 (k_pairs_met T) (sa_cons (se_var 1) sa_nil))))
    (ss_cons (ss_ret (se_and (se_cmp (ok_eq F0) (se_lenSet F0 T.b_len T.b_set (se_var 3)) (se_callB F0 T.b_len PySem.boot_len (ok_len F0) (sa_cons (se_var 3) sa_nil))) (se_one (se_callB F0 T.b_all (by decide +kernel) (ok_all F0) (sa_cons (SF.se (sf_lc [("one", 4), ("other", 5)] N_stands F0 (si_zip F0 T.b_zip (sa_cons (se_var 1) (sa_cons (se_slice F0 (se_var 1) (so_some se_int) so_none) sa_nil))) (sg_tup (F0.blk _) (sgs_cons 4 (F0.blk _) (sgs_cons 5 (F0.blk _) sgs_nil))) sq_nil (se_cmp (ok_lt (F0.blk _)) (se_var 4) (se_var 5)))) sa_nil)))))
    ss_nil)))
theorem k_is_plan (T : Top g) : Fk g 4 "is_plan" 2 m_is_plan := by
  obtain ⟨f, fd, Fd, hm⟩ := T.d_is_plan
  refine fk_mk (j := 3) (N := N_is_plan) (ps := ["players", "value"]) Fd hm sc_is_plan (Fd.binds fun _ _ _ _ _ _ us hl => match us, hl with | [_, _], _ => rfl) fun cdv A outer s H E F0 => ?_
  exact (ss_cons (ss_expr (se_call F0 (k_check_players T) (sa_cons (se_var 0) sa_nil)))
    (ss_cons (ss_ret (se_call F0 (k_stands T) (sa_cons (se_var 0) (sa_cons (se_var 1) sa_nil))))
    ss_nil))
theorem k_check_plan (T : Top g) : Fk g 4 "check_plan" 2 m_check_plan := by
  obtain ⟨f, fd, Fd, hm⟩ := T.d_check_plan
  refine fk_mk (j := 3) (N := N_check_plan) (ps := ["players", "plan"]) Fd hm sc_check_plan (Fd.binds fun _ _ _ _ _ _ us hl => match us, hl with | [_, _], _ => rfl) fun cdv A outer s H E F0 => ?_
  exact (ss_cons (ss_expr (se_call F0 (k_check_players T) (sa_cons (se_var 0) sa_nil)))
    (ss_cons (ss_if (st_not (st_val (se_call F0 (k_stands T) (sa_cons (se_var 0) (sa_cons (se_var 1) sa_nil))))) (ss_cons (ss_raise 2 F0 T.x_InvalidPlan PySem.F.excBase_ValueError)
    ss_nil) ss_nil)
    ss_nil))
theorem k_all_pairs (T : Top g) : Fk g 1 "all_pairs" 1 m_all_pairs := by
  obtain ⟨f, fd, Fd, hm⟩ := T.d_all_pairs
  refine fk_mk (j := 0) (N := N_all_pairs) (ps := ["players"]) Fd hm sc_all_pairs (Fd.binds fun _ _ _ _ _ _ us hl => match us, hl with | [_], _ => rfl) fun cdv A outer s H E F0 => ?_
  exact (ss_cons (ss_set .own 1 F0 (SF.own (sf_lst sa_nil)))
    (ss_cons (ss_for F0 (si_range1 F0 T.b_range (sa_cons (se_var 0) sa_nil)) (sg_name 2 F0) (ss_cons (ss_extA 1 F0 (SF.se (sf_lc [("other", 3)] N_all_pairs F0 (si_range2 F0 T.b_range (sa_cons (se_bin (ok_add F0) (se_var 2) se_int) (sa_cons (se_var 0) sa_nil))) (sg_name 3 (F0.blk _)) sq_nil (se_tup (sa_cons (se_var 2) (sa_cons (se_var 3) sa_nil))))))
    ss_nil))
    (ss_cons (ss_ret (se_var 1))
    ss_nil)))
theorem k_left_of (T : Top g) : Fk g 3 "left_of" 2 m_left_of := by
  obtain ⟨f, fd, Fd, hm⟩ := T.d_left_of
  refine fk_mk (j := 2) (N := N_left_of) (ps := ["players", "plan"]) Fd hm sc_left_of (Fd.binds fun _ _ _ _ _ _ us hl => match us, hl with | [_, _], _ => rfl) fun cdv A outer s H E F0 => ?_
  exact (ss_cons (ss_set .dat 2 F0 (SE.dat (se_call F0 (k_pairs_met T) (sa_cons (se_var 1) sa_nil))))
    (ss_cons (ss_ret (SF.se (sf_lc [("pair", 3)] N_left_of F0 (si_seq F0 (se_call F0 (k_all_pairs T) (sa_cons (se_var 0) sa_nil))) (sg_name 3 (F0.blk _)) (sq_one (st_cmp (ok_notIn (F0.blk _)) (se_var 3) (se_var 2))) (se_var 3))))
    ss_nil))
theorem k_pairs_left (T : Top g) : Fk g 5 "pairs_left" 2 m_pairs_left := by
  obtain ⟨f, fd, Fd, hm⟩ := T.d_pairs_left
  refine fk_mk (j := 4) (N := N_pairs_left) (ps := ["players", "plan"]) Fd hm sc_pairs_left (Fd.binds fun _ _ _ _ _ _ us hl => match us, hl with | [_, _], _ => rfl) fun cdv A outer s H E F0 => ?_
  exact (ss_cons (ss_expr (se_call F0 (k_check_plan T) (sa_cons (se_var 0) (sa_cons (se_var 1) sa_nil))))
    (ss_cons (ss_ret (se_call F0 (k_left_of T) (sa_cons (se_var 0) (sa_cons (se_var 1) sa_nil))))
    ss_nil))
theorem k_is_full (T : Top g) : Fk g 5 "is_full" 2 m_is_full := by
  obtain ⟨f, fd, Fd, hm⟩ := T.d_is_full
  refine fk_mk (j := 4) (N := N_is_full) (ps := ["players", "plan"]) Fd hm sc_is_full (Fd.binds fun _ _ _ _ _ _ us hl => match us, hl with | [_, _], _ => rfl) fun cdv A outer s H E F0 => ?_
  exact (ss_cons (ss_expr (se_call F0 (k_check_plan T) (sa_cons (se_var 0) (sa_cons (se_var 1) sa_nil))))
    (ss_cons (ss_ret (se_cmp (ok_eq F0) (se_call F0 (k_left_of T) (sa_cons (se_var 0) (sa_cons (se_var 1) sa_nil))) (SF.se (sf_lst sa_nil))))
    ss_nil))
theorem k_partners (T : Top g) : Fk g 5 "partners" 3 m_partners := by
  obtain ⟨f, fd, Fd, hm⟩ := T.d_partners
  refine fk_mk (j := 4) (N := N_partners) (ps := ["players", "plan", "player"]) Fd hm sc_partners (Fd.binds fun _ _ _ _ _ _ us hl => match us, hl with | [_, _, _], _ => rfl) fun cdv A outer s H E F0 => ?_
  exact (ss_cons (ss_expr (se_call F0 (k_check_plan T) (sa_cons (se_var 0) (sa_cons (se_var 1) sa_nil))))
    (ss_cons (ss_if (st_not (st_val (se_call F0 (k_is_integer T) (sa_cons (se_var 2) (sa_cons se_int (sa_cons (se_bin (ok_sub F0) (se_var 0) se_int) sa_nil)))))) (ss_cons (ss_raise 3 F0 T.x_InvalidPlayer PySem.F.excBase_ValueError)
    ss_nil) ss_nil)
    (ss_cons (ss_ret (SF.se (sf_lc [("one", 3)] N_partners F0 (si_range1 F0 T.b_range (sa_cons (se_var 0) sa_nil)) (sg_name 3 (F0.blk _)) (sq_one (st_cmp (ok_in (F0.blk _)) (se_tup (sa_cons (se_callB (F0.blk _) T.b_min (by decide +kernel) (ok_min2 (F0.blk _)) (sa_cons (se_var 3) (sa_cons (se_var 2) sa_nil))) (sa_cons (se_callB (F0.blk _) T.b_max (by decide +kernel) (ok_max2 (F0.blk _)) (sa_cons (se_var 3) (sa_cons (se_var 2) sa_nil))) sa_nil))) (se_call (F0.blk _) (k_pairs_met T) (sa_cons (se_var 1) sa_nil)))) (se_var 3))))
    ss_nil)))
theorem k_open_list (T : Top g) : Fk g 4 "open_list" 2 m_open_list := by
  obtain ⟨f, fd, Fd, hm⟩ := T.d_open_list
  refine fk_mk (j := 3) (N := N_open_list) (ps := ["players", "plan"]) Fd hm sc_open_list (Fd.binds fun _ _ _ _ _ _ us hl => match us, hl with | [_, _], _ => rfl) fun cdv A outer s H E F0 => ?_
  exact (ss_cons (ss_set .dat 2 F0 (SE.dat (se_call F0 (k_left_of T) (sa_cons (se_var 0) (sa_cons (se_var 1) sa_nil)))))
    (ss_cons (ss_set .own 3 F0 (SF.own (sf_lst sa_nil)))
    (ss_cons (ss_for F0 (si_seq F0 (se_call F0 (k_all_pairs T) (sa_cons (se_var 0) sa_nil))) (sg_tup F0 (sgs_cons 4 F0 (sgs_cons 5 F0 sgs_nil))) (ss_cons (ss_for F0 (si_range2 F0 T.b_range (sa_cons (se_bin (ok_add F0) (se_var 5) se_int) (sa_cons (se_var 0) sa_nil))) (sg_name 6 F0) (ss_cons (ss_if (st_val (se_callB F0 T.b_all (by decide +kernel) (ok_all F0) (sa_cons (SF.se (sf_lc [("pair", 7)] N_open_list F0 (si_seq F0 (se_call F0 (k_pairs_of T) (sa_cons (se_tup (sa_cons (se_var 4) (sa_cons (se_var 5) (sa_cons (se_var 6) sa_nil)))) sa_nil))) (sg_name 7 (F0.blk _)) sq_nil (se_cmp (ok_in (F0.blk _)) (se_var 7) (se_var 2)))) sa_nil))) (ss_cons (ss_app 3 F0 (se_tup (sa_cons (se_var 4) (sa_cons (se_var 5) (sa_cons (se_var 6) sa_nil)))))
    ss_nil) ss_nil)
    ss_nil))
    ss_nil))
    (ss_cons (ss_ret (se_var 3))
    ss_nil))))
theorem k_open_threes (T : Top g) : Fk g 5 "open_threes" 2 m_open_threes := by
  obtain ⟨f, fd, Fd, hm⟩ := T.d_open_threes
  refine fk_mk (j := 4) (N := N_open_threes) (ps := ["players", "plan"]) Fd hm sc_open_threes (Fd.binds fun _ _ _ _ _ _ us hl => match us, hl with | [_, _], _ => rfl) fun cdv A outer s H E F0 => ?_
  exact (ss_cons (ss_expr (se_call F0 (k_check_plan T) (sa_cons (se_var 0) (sa_cons (se_var 1) sa_nil))))
    (ss_cons (ss_ret (se_call F0 (k_open_list T) (sa_cons (se_var 0) (sa_cons (se_var 1) sa_nil))))
    ss_nil))
theorem k_completion (T : Top g) : Fk g 5 "completion" 2 m_completion := by
  obtain ⟨f, fd, Fd, hm⟩ := T.d_completion
  refine fk_mk (j := 4) (N := N_completion) (ps := ["players", "plan"]) Fd hm sc_completion (Fd.binds fun _ _ _ _ _ _ us hl => match us, hl with | [_, _], _ => rfl) fun cdv A outer s H E F0 => ?_
  exact (ss_cons (ss_expr (se_call F0 (k_check_plan T) (sa_cons (se_var 0) (sa_cons (se_var 1) sa_nil))))
    (ss_cons (ss_set .dat 2 F0 (SE.dat (se_call F0 (k_open_list T) (sa_cons (se_var 0) (sa_cons (se_var 1) sa_nil)))))
    (ss_cons (ss_while 10000000000000000000000000000000000000000 F0 (st_cmp (ok_ne F0) (se_var 2) (SF.se (sf_lst sa_nil))) (ss_cons (ss_set .dat 1 F0 (SE.dat (se_callTy F0 T.b_tuple (by decide +kernel) (ok_tuple F0) (sa_cons (SF.se (sf_callB F0 T.b_sorted (by decide +kernel) (ok_sort F0) (sa_cons (se_bin (ok_add F0) (se_var 1) (se_tup (sa_cons (se_ix F0 (se_var 2) se_int) sa_nil))) sa_nil))) sa_nil))))
    (ss_cons (ss_set .dat 2 F0 (SE.dat (se_call F0 (k_open_list T) (sa_cons (se_var 0) (sa_cons (se_var 1) sa_nil)))))
    ss_nil)))
    (ss_cons (ss_ret (se_var 1))
    ss_nil))))
theorem k_greatest (T : Top g) : Fk g 3 "greatest" 1 m_greatest := by
  obtain ⟨f, fd, Fd, hm⟩ := T.d_greatest
  refine fk_mk (j := 2) (N := N_greatest) (ps := ["players"]) Fd hm sc_greatest (Fd.binds fun _ _ _ _ _ _ us hl => match us, hl with | [_], _ => rfl) fun cdv A outer s H E F0 => ?_
  exact (ss_cons (ss_expr (se_call F0 (k_check_players T) (sa_cons (se_var 0) sa_nil)))
    (ss_cons (ss_ret (se_ix F0 (SF.se (sf_lst (sa_cons se_int (sa_cons se_int (sa_cons se_int (sa_cons se_int (sa_cons se_int (sa_cons se_int (sa_cons se_int sa_nil))))))))) (se_bin (ok_sub F0) (se_var 0) se_int)))
    ss_nil))
theorem k_full_plans (T : Top g) : Fk g 4 "full_plans" 2 m_full_plans := by
  obtain ⟨f, fd, Fd, hm⟩ := T.d_full_plans
  refine fk_mk (j := 3) (N := N_full_plans) (ps := ["players", "plan"]) Fd hm sc_full_plans (Fd.binds fun _ _ _ _ _ _ us hl => match us, hl with | [_, _], _ => rfl) fun cdv A outer s H E F0 => ?_
  exact (ss_cons (ss_par .own 2 .own 3 F0 (SF.own (sf_lst sa_nil)) (SF.own (sf_lst (sa_cons (se_tup (sa_cons (se_var 1) (sa_cons (se_call F0 (k_left_of T) (sa_cons (se_var 0) (sa_cons (se_var 1) sa_nil))) sa_nil))) sa_nil))))
    (ss_cons (ss_while 10000000000000000000000000000000000000000 F0 (st_cmp (ok_ne F0) (se_var 3) (SF.se (sf_lst sa_nil))) (ss_cons (ss_pop 3 F0 (sg_tup F0 (sgs_cons 4 F0 (sgs_cons 5 F0 sgs_nil))))
    (ss_cons (ss_if (st_cmp (ok_eq F0) (se_var 5) (SF.se (sf_lst sa_nil))) (ss_cons (ss_app 2 F0 (se_var 4))
    ss_nil) (ss_cons (ss_unp (sg_tup F0 (sgs_cons 6 F0 (sgs_cons 7 F0 sgs_nil))) (se_ix F0 (se_var 5) se_int))
    (ss_cons (ss_for F0 (si_range1 F0 T.b_range (sa_cons (se_var 0) sa_nil)) (sg_name 8 F0) (ss_cons (ss_set .dat 9 F0 (SE.dat (se_callTy F0 T.b_tuple (by decide +kernel) (ok_tuple F0) (sa_cons (SF.se (sf_callB F0 T.b_sorted (by decide +kernel) (ok_sort F0) (sa_cons (SF.se (sf_lst (sa_cons (se_var 6) (sa_cons (se_var 7) (sa_cons (se_var 8) sa_nil))))) sa_nil))) sa_nil))))
    (ss_cons (ss_if (SW.st (sw_and (st_cmp (ok_notIn F0) (se_var 8) (se_tup (sa_cons (se_var 6) (sa_cons (se_var 7) sa_nil)))) (sw_and1 (st_val (se_callB F0 T.b_all (by decide +kernel) (ok_all F0) (sa_cons (SF.se (sf_lc [("pair", 10)] N_full_plans F0 (si_seq F0 (se_call F0 (k_pairs_of T) (sa_cons (se_var 9) sa_nil))) (sg_name 10 (F0.blk _)) sq_nil (se_cmp (ok_in (F0.blk _)) (se_var 10) (se_var 5)))) sa_nil)))))) (ss_cons (ss_app 3 F0 (se_tup (sa_cons (se_bin (ok_add F0) (se_var 4) (se_tup (sa_cons (se_var 9) sa_nil))) (sa_cons (SF.se (sf_lc [("pair", 10)] N_full_plans F0 (si_seq F0 (se_var 5)) (sg_name 10 (F0.blk _)) (sq_one (st_cmp (ok_notIn (F0.blk _)) (se_var 10) (se_call (F0.blk _) (k_pairs_of T) (sa_cons (se_var 9) sa_nil)))) (se_var 10))) sa_nil))))
    ss_nil) ss_nil)
    ss_nil)))
    ss_nil)))
    ss_nil)))
    (ss_cons (ss_ret (SF.se (sf_lc [("one", 6)] N_full_plans F0 (si_seq F0 (se_var 2)) (sg_name 6 (F0.blk _)) sq_nil (se_callTy (F0.blk _) T.b_tuple (by decide +kernel) (ok_tuple (F0.blk _)) (sa_cons (SF.se (sf_callB (F0.blk _) T.b_sorted (by decide +kernel) (ok_sort (F0.blk _)) (sa_cons (se_var 6) sa_nil))) sa_nil)))))
    ss_nil)))
theorem k_full_plan (T : Top g) : Fk g 5 "full_plan" 2 m_full_plan := by
  obtain ⟨f, fd, Fd, hm⟩ := T.d_full_plan
  refine fk_mk (j := 4) (N := N_full_plan) (ps := ["players", "plan"]) Fd hm sc_full_plan (Fd.binds fun _ _ _ _ _ _ us hl => match us, hl with | [_, _], _ => rfl) fun cdv A outer s H E F0 => ?_
  exact (ss_cons (ss_expr (se_call F0 (k_check_plan T) (sa_cons (se_var 0) (sa_cons (se_var 1) sa_nil))))
    (ss_cons (ss_set .dat 2 F0 (SE.dat (se_call F0 (k_full_plans T) (sa_cons (se_var 0) (sa_cons (se_var 1) sa_nil)))))
    (ss_cons (ss_if (st_cmp (ok_eq F0) (se_var 2) (SF.se (sf_lst sa_nil))) (ss_cons (ss_raise 6 F0 T.x_NoPlan PySem.F.excBase_ValueError)
    ss_nil) ss_nil)
    (ss_cons (ss_ret (se_callB F0 T.b_min (by decide +kernel) (ok_minL F0) (sa_cons (se_var 2) sa_nil)))
    ss_nil))))
theorem k_count_full (T : Top g) : Fk g 5 "count_full" 2 m_count_full := by
  obtain ⟨f, fd, Fd, hm⟩ := T.d_count_full
  refine fk_mk (j := 4) (N := N_count_full) (ps := ["players", "plan"]) Fd hm sc_count_full (Fd.binds fun _ _ _ _ _ _ us hl => match us, hl with | [_, _], _ => rfl) fun cdv A outer s H E F0 => ?_
  exact (ss_cons (ss_expr (se_call F0 (k_check_plan T) (sa_cons (se_var 0) (sa_cons (se_var 1) sa_nil))))
    (ss_cons (ss_ret (se_callB F0 T.b_len PySem.boot_len (ok_len F0) (sa_cons (se_call F0 (k_full_plans T) (sa_cons (se_var 0) (sa_cons (se_var 1) sa_nil))) sa_nil)))
    ss_nil))
theorem k_makes_day (T : Top g) : Fk g 3 "makes_day" 2 m_makes_day := by
  obtain ⟨f, fd, Fd, hm⟩ := T.d_makes_day
  refine fk_mk (j := 2) (N := N_makes_day) (ps := ["players", "value"]) Fd hm sc_makes_day (Fd.binds fun _ _ _ _ _ _ us hl => match us, hl with | [_, _], _ => rfl) fun cdv A outer s H E F0 => ?_
  exact (ss_cons (ss_if (SW.st (sw_or (st_not (st_val (se_isT .tuple F0 T.b_isinstance T.b_tuple (by decide +kernel) (se_var 1)))) (sw_or1 (st_not (st_val (se_callB F0 T.b_all (by decide +kernel) (ok_all F0) (sa_cons (SF.se (sf_lc [("three", 2)] N_makes_day F0 (si_seq F0 (se_var 1)) (sg_name 2 (F0.blk _)) sq_nil (se_call (F0.blk _) (k_fits T) (sa_cons (se_var 0) (sa_cons (se_var 2) sa_nil))))) sa_nil))))))) (ss_cons (ss_ret se_bl)
    ss_nil) ss_nil)
    (ss_cons (ss_set .own 3 F0 (SF.own (sf_lst sa_nil)))
    (ss_cons (ss_for F0 (si_seq F0 (se_var 1)) (sg_name 2 F0) (ss_cons (ss_extA 3 F0 (se_var 2))
    ss_nil))
    (ss_cons (ss_ret (se_and (se_cmp (ok_eq F0) (SF.se (sf_callB F0 T.b_sorted (by decide +kernel) (ok_sort F0) (sa_cons (se_var 3) sa_nil))) (SF.se (sf_lrange F0 T.b_list T.b_range (se_var 0)))) (se_one (se_cmp (ok_eq F0) (SF.se (sf_callTy F0 T.b_list (by decide +kernel) (ok_list F0) (sa_cons (se_var 1) sa_nil))) (SF.se (sf_callB F0 T.b_sorted (by decide +kernel) (ok_sort F0) (sa_cons (se_var 1) sa_nil)))))))
    ss_nil))))
theorem k_is_day (T : Top g) : Fk g 4 "is_day" 2 m_is_day := by
  obtain ⟨f, fd, Fd, hm⟩ := T.d_is_day
  refine fk_mk (j := 3) (N := N_is_day) (ps := ["players", "value"]) Fd hm sc_is_day (Fd.binds fun _ _ _ _ _ _ us hl => match us, hl with | [_, _], _ => rfl) fun cdv A outer s H E F0 => ?_
  exact (ss_cons (ss_expr (se_call F0 (k_check_players T) (sa_cons (se_var 0) sa_nil)))
    (ss_cons (ss_ret (se_call F0 (k_makes_day T) (sa_cons (se_var 0) (sa_cons (se_var 1) sa_nil))))
    ss_nil))
theorem k_day_list (T : Top g) : Fk g 4 "day_list" 2 m_day_list := by
  obtain ⟨f, fd, Fd, hm⟩ := T.d_day_list
  refine fk_mk (j := 3) (N := N_day_list) (ps := ["players", "plan"]) Fd hm sc_day_list (Fd.binds fun _ _ _ _ _ _ us hl => match us, hl with | [_, _], _ => rfl) fun cdv A outer s H E F0 => ?_
  exact (ss_cons (ss_set .dat 2 F0 (SE.dat (SF.se (sf_lst (sa_cons (se_tup sa_nil) sa_nil)))))
    (ss_cons (ss_for F0 (si_range1 F0 T.b_range (sa_cons (se_bin (ok_fdiv F0) (se_var 0) se_int) sa_nil)) (sg_name 3 F0) (ss_cons (ss_set .own 4 F0 (SF.own (sf_lst sa_nil)))
    (ss_cons (ss_for F0 (si_seq F0 (se_var 2)) (sg_name 5 F0) (ss_cons (ss_set .own 6 F0 (SF.own (sf_lst sa_nil)))
    (ss_cons (ss_for F0 (si_seq F0 (se_var 5)) (sg_name 7 F0) (ss_cons (ss_extA 6 F0 (se_var 7))
    ss_nil))
    (ss_cons (ss_for F0 (si_seq F0 (se_var 1)) (sg_name 7 F0) (ss_cons (ss_if (SW.st (sw_and (st_not (st_val (se_callB F0 T.b_any (by decide +kernel) (ok_any F0) (sa_cons (SF.se (sf_lc [("player", 8)] N_day_list F0 (si_seq F0 (se_var 7)) (sg_name 8 (F0.blk _)) sq_nil (se_cmp (ok_in (F0.blk _)) (se_var 8) (se_var 6)))) sa_nil)))) (sw_and1 (SW.st (sw_or (st_cmp (ok_eq F0) (se_var 5) (se_tup sa_nil)) (sw_or1 (st_cmp (ok_lt F0) (se_ix F0 (se_var 5) (se_neg se_int)) (se_var 7)))))))) (ss_cons (ss_app 4 F0 (se_bin (ok_add F0) (se_var 5) (se_tup (sa_cons (se_var 7) sa_nil))))
    ss_nil) ss_nil)
    ss_nil))
    ss_nil))))
    (ss_frz 4 (ss_cons (ss_set .dat 2 F0 (SE.dat (se_var 4)))
    ss_nil)))))
    (ss_cons (ss_ret (SF.se (sf_lc [("one", 5)] N_day_list F0 (si_seq F0 (se_var 2)) (sg_name 5 (F0.blk _)) (sq_one (st_val (se_call (F0.blk _) (k_makes_day T) (sa_cons (se_var 0) (sa_cons (se_var 5) sa_nil))))) (se_var 5))))
    ss_nil)))
theorem k_days_in (T : Top g) : Fk g 5 "days_in" 2 m_days_in := by
  obtain ⟨f, fd, Fd, hm⟩ := T.d_days_in
  refine fk_mk (j := 4) (N := N_days_in) (ps := ["players", "plan"]) Fd hm sc_days_in (Fd.binds fun _ _ _ _ _ _ us hl => match us, hl with | [_, _], _ => rfl) fun cdv A outer s H E F0 => ?_
  exact (ss_cons (ss_expr (se_call F0 (k_check_plan T) (sa_cons (se_var 0) (sa_cons (se_var 1) sa_nil))))
    (ss_cons (ss_ret (se_call F0 (k_day_list T) (sa_cons (se_var 0) (sa_cons (se_var 1) sa_nil))))
    ss_nil))
theorem k_into_days (T : Top g) : Fk g 5 "into_days" 2 m_into_days := by
  obtain ⟨f, fd, Fd, hm⟩ := T.d_into_days
  refine fk_mk (j := 4) (N := N_into_days) (ps := ["players", "plan"]) Fd hm sc_into_days (Fd.binds fun _ _ _ _ _ _ us hl => match us, hl with | [_, _], _ => rfl) fun cdv A outer s H E F0 => ?_
  exact (ss_cons (ss_expr (se_call F0 (k_check_plan T) (sa_cons (se_var 0) (sa_cons (se_var 1) sa_nil))))
    (ss_cons (ss_set .dat 2 F0 (SE.dat (se_call F0 (k_day_list T) (sa_cons (se_var 0) (sa_cons (se_var 1) sa_nil)))))
    (ss_cons (ss_set .own 3 F0 (SF.own (sf_lst (sa_cons (se_tup (sa_cons (SF.se (sf_lst sa_nil)) (sa_cons (SF.se (sf_callTy F0 T.b_list (by decide +kernel) (ok_list F0) (sa_cons (se_var 1) sa_nil))) sa_nil))) sa_nil))))
    (ss_cons (ss_while 10000000000000000000000000000000000000000 F0 (st_cmp (ok_ne F0) (se_var 3) (SF.se (sf_lst sa_nil))) (ss_cons (ss_pop 3 F0 (sg_tup F0 (sgs_cons 4 F0 (sgs_cons 5 F0 sgs_nil))))
    (ss_cons (ss_if (st_cmp (ok_eq F0) (se_var 5) (SF.se (sf_lst sa_nil))) (ss_cons (ss_ret (se_var 4))
    ss_nil) ss_nil)
    (ss_cons (ss_for F0 (si_seq F0 (SF.se (sf_rev F0 (se_var 2)))) (sg_name 6 F0) (ss_cons (ss_if (SW.st (sw_and (st_cmp (ok_in F0) (se_ix F0 (se_var 5) se_int) (se_var 6)) (sw_and1 (st_val (se_callB F0 T.b_all (by decide +kernel) (ok_all F0) (sa_cons (SF.se (sf_lc [("three", 7)] N_into_days F0 (si_seq F0 (se_var 6)) (sg_name 7 (F0.blk _)) sq_nil (se_cmp (ok_in (F0.blk _)) (se_var 7) (se_var 5)))) sa_nil)))))) (ss_cons (ss_app 3 F0 (se_tup (sa_cons (se_bin (ok_add F0) (se_var 4) (SF.se (sf_lst (sa_cons (se_var 6) sa_nil)))) (sa_cons (SF.se (sf_lc [("three", 7)] N_into_days F0 (si_seq F0 (se_var 5)) (sg_name 7 (F0.blk _)) (sq_one (st_cmp (ok_notIn (F0.blk _)) (se_var 7) (se_var 6))) (se_var 7))) sa_nil))))
    ss_nil) ss_nil)
    ss_nil))
    ss_nil))))
    (ss_cons (ss_raise 7 F0 T.x_NoDays PySem.F.excBase_ValueError)
    ss_nil)))))
theorem k_players_of (T : Top g) : Fk g 1 "players_of" 1 m_players_of := by
  obtain ⟨f, fd, Fd, hm⟩ := T.d_players_of
  refine fk_mk (j := 0) (N := N_players_of) (ps := ["some"]) Fd hm sc_players_of (Fd.binds fun _ _ _ _ _ _ us hl => match us, hl with | [_], _ => rfl) fun cdv A outer s H E F0 => ?_
  exact (ss_cons (ss_dnew 1 F0)
    (ss_cons (ss_for F0 (si_seq F0 (se_var 0)) (sg_name 2 F0) (ss_cons (ss_for F0 (si_seq F0 (se_var 2)) (sg_name 3 F0) (ss_cons (ss_dput 1 F0 (se_var 3) se_bl)
    ss_nil))
    ss_nil))
    (ss_frzD 1 (ss_cons (ss_ret (SF.se (sf_callB F0 T.b_sorted (by decide +kernel) (ok_sortM F0) (sa_cons (se_var 1) sa_nil))))
    ss_nil))))
theorem k_four_list (T : Top g) : Fk g 2 "four_list" 1 m_four_list := by
  obtain ⟨f, fd, Fd, hm⟩ := T.d_four_list
  refine fk_mk (j := 1) (N := N_four_list) (ps := ["plan"]) Fd hm sc_four_list (Fd.binds fun _ _ _ _ _ _ us hl => match us, hl with | [_], _ => rfl) fun cdv A outer s H E F0 => ?_
  exact (ss_cons (ss_set .dat 1 F0 (SE.dat (SF.se (sf_lst (sa_cons (se_tup sa_nil) sa_nil)))))
    (ss_cons (ss_for F0 (si_seq F0 (se_var 0)) (sg_name 2 F0) (ss_cons (ss_set .dat 1 F0 (SE.dat (se_bin (ok_add F0) (se_var 1) (SF.se (sf_lc [("one", 3)] N_four_list F0 (si_seq F0 (se_var 1)) (sg_name 3 (F0.blk _)) (sq_one (st_cmp (ok_lt (F0.blk _)) (se_callB (F0.blk _) T.b_len PySem.boot_len (ok_len (F0.blk _)) (sa_cons (se_var 3) sa_nil)) se_int)) (se_bin (ok_add (F0.blk _)) (se_var 3) (se_tup (sa_cons (se_var 2) sa_nil))))))))
    ss_nil))
    (ss_cons (ss_set .own 4 F0 (SF.own (sf_lst sa_nil)))
    (ss_cons (ss_for F0 (si_seq F0 (se_var 1)) (sg_name 3 F0) (ss_cons (ss_if (SW.st (sw_and (st_cmp (ok_eq F0) (se_callB F0 T.b_len PySem.boot_len (ok_len F0) (sa_cons (se_var 3) sa_nil)) se_int) (sw_and1 (st_cmp (ok_eq F0) (se_callB F0 T.b_len PySem.boot_len (ok_len F0) (sa_cons (se_call F0 (k_players_of T) (sa_cons (se_var 3) sa_nil)) sa_nil)) se_int)))) (ss_cons (ss_if (st_val (se_callB F0 T.b_all (by decide +kernel) (ok_all F0) (sa_cons (SF.se (sf_lc [("player", 5)] N_four_list F0 (si_seq F0 (se_call F0 (k_players_of T) (sa_cons (se_var 3) sa_nil))) (sg_name 5 (F0.blk _)) sq_nil (se_cmp (ok_eq (F0.blk _)) (se_callB (F0.blk _) T.b_len PySem.boot_len (ok_len (F0.blk _)) (sa_cons (SF.se (sf_lc [("three", 2)] N_four_list (F0.blk _) (si_seq (F0.blk _) (se_var 3)) (sg_name 2 ((F0.blk _).blk _)) (sq_one (st_cmp (ok_in ((F0.blk _).blk _)) (se_var 5) (se_var 2))) se_int)) sa_nil)) se_int))) sa_nil))) (ss_cons (ss_app 4 F0 (se_var 3))
    ss_nil) ss_nil)
    ss_nil) ss_nil)
    ss_nil))
    (ss_cons (ss_ret (SF.se (sf_callB F0 T.b_sorted (by decide +kernel) (ok_sort F0) (sa_cons (se_var 4) sa_nil))))
    ss_nil)))))
theorem k_fours (T : Top g) : Fk g 5 "fours" 2 m_fours := by
  obtain ⟨f, fd, Fd, hm⟩ := T.d_fours
  refine fk_mk (j := 4) (N := N_fours) (ps := ["players", "plan"]) Fd hm sc_fours (Fd.binds fun _ _ _ _ _ _ us hl => match us, hl with | [_, _], _ => rfl) fun cdv A outer s H E F0 => ?_
  exact (ss_cons (ss_expr (se_call F0 (k_check_plan T) (sa_cons (se_var 0) (sa_cons (se_var 1) sa_nil))))
    (ss_cons (ss_ret (se_call F0 (k_four_list T) (sa_cons (se_var 1) sa_nil)))
    ss_nil))
theorem k_opposite (T : Top g) : Fk g 3 "opposite" 1 m_opposite := by
  obtain ⟨f, fd, Fd, hm⟩ := T.d_opposite
  refine fk_mk (j := 2) (N := N_opposite) (ps := ["four"]) Fd hm sc_opposite (Fd.binds fun _ _ _ _ _ _ us hl => match us, hl with | [_], _ => rfl) fun cdv A outer s H E F0 => ?_
  exact (ss_cons (ss_par .dat 1 .dat 2 F0 (SE.dat (se_call F0 (k_pairs_met T) (sa_cons (se_var 0) sa_nil))) (SE.dat (se_call F0 (k_players_of T) (sa_cons (se_var 0) sa_nil))))
    (ss_cons (ss_dnew 3 F0)
    (ss_cons (ss_for F0 (si_seq F0 (se_var 2)) (sg_name 4 F0) (ss_cons (ss_for F0 (si_seq F0 (se_var 2)) (sg_name 5 F0) (ss_cons (ss_if (SW.st (sw_and (st_cmp (ok_ne F0) (se_var 4) (se_var 5)) (sw_and1 (st_cmp (ok_notIn F0) (se_tup (sa_cons (se_callB F0 T.b_min (by decide +kernel) (ok_min2 F0) (sa_cons (se_var 4) (sa_cons (se_var 5) sa_nil))) (sa_cons (se_callB F0 T.b_max (by decide +kernel) (ok_max2 F0) (sa_cons (se_var 4) (sa_cons (se_var 5) sa_nil))) sa_nil))) (se_var 1))))) (ss_cons (ss_dput 3 F0 (se_var 4) (se_var 5))
    ss_nil) ss_nil)
    ss_nil))
    ss_nil))
    (ss_frzD 3 (ss_cons (ss_ret (SF.se (sf_lc [("three", 6)] N_opposite F0 (si_seq F0 (se_var 0)) (sg_name 6 (F0.blk _)) sq_nil (se_callTy (F0.blk _) T.b_tuple (by decide +kernel) (ok_tuple (F0.blk _)) (sa_cons (SF.se (sf_callB (F0.blk _) T.b_sorted (by decide +kernel) (ok_sort (F0.blk _)) (sa_cons (SF.se (sf_lc [("player", 4)] N_opposite (F0.blk _) (si_seq (F0.blk _) (se_var 6)) (sg_name 4 ((F0.blk _).blk _)) sq_nil (se_dget ((F0.blk _).blk _) (se_var 3) (se_var 4)))) sa_nil))) sa_nil)))))
    ss_nil)))))
theorem k_exchanged (T : Top g) : Fk g 5 "exchanged" 3 m_exchanged := by
  obtain ⟨f, fd, Fd, hm⟩ := T.d_exchanged
  refine fk_mk (j := 4) (N := N_exchanged) (ps := ["players", "plan", "four"]) Fd hm sc_exchanged (Fd.binds fun _ _ _ _ _ _ us hl => match us, hl with | [_, _, _], _ => rfl) fun cdv A outer s H E F0 => ?_
  exact (ss_cons (ss_expr (se_call F0 (k_check_plan T) (sa_cons (se_var 0) (sa_cons (se_var 1) sa_nil))))
    (ss_cons (ss_if (SW.st (sw_or (st_not (st_val (se_isT .tuple F0 T.b_isinstance T.b_tuple (by decide +kernel) (se_var 2)))) (sw_or1 (st_cmp (ok_notIn F0) (se_var 2) (se_call F0 (k_four_list T) (sa_cons (se_var 1) sa_nil)))))) (ss_cons (ss_raise 4 F0 T.x_InvalidFour PySem.F.excBase_ValueError)
    ss_nil) ss_nil)
    (ss_cons (ss_lc (slc [("three", 4)] N_exchanged F0 (si_seq F0 (se_var 1)) (sg_name 4 (F0.blk _)) (sq_one (st_cmp (ok_notIn (F0.blk _)) (se_var 4) (se_var 2))) (se_var 4)))
    (ss_cons (ss_ret (se_callTy F0 T.b_tuple (by decide +kernel) (ok_tuple F0) (sa_cons (SF.se (sf_callB F0 T.b_sorted (by decide +kernel) (ok_sort F0) (sa_cons (se_bin (ok_add F0) (se_var 3) (se_call F0 (k_opposite T) (sa_cons (se_var 2) sa_nil))) sa_nil))) sa_nil)))
    ss_nil))))
theorem k_named (T : Top g) : Fk g 1 "named" 2 m_named := by
  obtain ⟨f, fd, Fd, hm⟩ := T.d_named
  refine fk_mk (j := 0) (N := N_named) (ps := ["plan", "names"]) Fd hm sc_named (Fd.binds fun _ _ _ _ _ _ us hl => match us, hl with | [_, _], _ => rfl) fun cdv A outer s H E F0 => ?_
  exact (ss_cons (ss_ret (se_callTy F0 T.b_tuple (by decide +kernel) (ok_tuple F0) (sa_cons (SF.se (sf_callB F0 T.b_sorted (by decide +kernel) (ok_sort F0) (sa_cons (SF.se (sf_lc [("three", 3)] N_named F0 (si_seq F0 (se_var 0)) (sg_name 3 (F0.blk _)) sq_nil (se_callTy (F0.blk _) T.b_tuple (by decide +kernel) (ok_tuple (F0.blk _)) (sa_cons (SF.se (sf_callB (F0.blk _) T.b_sorted (by decide +kernel) (ok_sort (F0.blk _)) (sa_cons (SF.se (sf_lc [("player", 2)] N_named (F0.blk _) (si_seq (F0.blk _) (se_var 3)) (sg_name 2 ((F0.blk _).blk _)) sq_nil (se_ix ((F0.blk _).blk _) (se_var 1) (se_var 2)))) sa_nil))) sa_nil)))) sa_nil))) sa_nil)))
    ss_nil)
theorem k_renamed (T : Top g) : Fk g 5 "renamed" 3 m_renamed := by
  obtain ⟨f, fd, Fd, hm⟩ := T.d_renamed
  refine fk_mk (j := 4) (N := N_renamed) (ps := ["players", "plan", "names"]) Fd hm sc_renamed (Fd.binds fun _ _ _ _ _ _ us hl => match us, hl with | [_, _, _], _ => rfl) fun cdv A outer s H E F0 => ?_
  exact (ss_cons (ss_expr (se_call F0 (k_check_plan T) (sa_cons (se_var 0) (sa_cons (se_var 1) sa_nil))))
    (ss_cons (ss_if (SW.st (sw_or (st_not (st_val (se_isT .tuple F0 T.b_isinstance T.b_tuple (by decide +kernel) (se_var 2)))) (sw_or1 (st_not (st_val (se_callB F0 T.b_all (by decide +kernel) (ok_all F0) (sa_cons (SF.se (sf_lc [("one", 3)] N_renamed F0 (si_seq F0 (se_var 2)) (sg_name 3 (F0.blk _)) sq_nil (se_call (F0.blk _) (k_is_integer T) (sa_cons (se_var 3) (sa_cons se_int (sa_cons (se_bin (ok_sub (F0.blk _)) (se_var 0) se_int) sa_nil)))))) sa_nil))))))) (ss_cons (ss_raise 5 F0 T.x_InvalidNames PySem.F.excBase_ValueError)
    ss_nil) ss_nil)
    (ss_cons (ss_if (st_cmp (ok_ne F0) (SF.se (sf_callB F0 T.b_sorted (by decide +kernel) (ok_sort F0) (sa_cons (se_var 2) sa_nil))) (SF.se (sf_lrange F0 T.b_list T.b_range (se_var 0)))) (ss_cons (ss_raise 5 F0 T.x_InvalidNames PySem.F.excBase_ValueError)
    ss_nil) ss_nil)
    (ss_cons (ss_ret (se_call F0 (k_named T) (sa_cons (se_var 1) (sa_cons (se_var 2) sa_nil))))
    ss_nil))))
theorem k_goes (T : Top g) : Fk g 1 "goes" 3 m_goes := by
  obtain ⟨f, fd, Fd, hm⟩ := T.d_goes
  refine fk_mk (j := 0) (N := N_goes) (ps := ["three", "names", "other"]) Fd hm sc_goes (Fd.binds fun _ _ _ _ _ _ us hl => match us, hl with | [_, _, _], _ => rfl) fun cdv A outer s H E F0 => ?_
  exact (ss_cons (ss_ret (se_cmp (ok_in F0) (se_callTy F0 T.b_tuple (by decide +kernel) (ok_tuple F0) (sa_cons (SF.se (sf_callB F0 T.b_sorted (by decide +kernel) (ok_sort F0) (sa_cons (SF.se (sf_lc [("player", 3)] N_goes F0 (si_seq F0 (se_var 0)) (sg_name 3 (F0.blk _)) sq_nil (se_ix (F0.blk _) (se_var 1) (se_var 3)))) sa_nil))) sa_nil)) (se_var 2)))
    ss_nil)
theorem k_names_between (T : Top g) : Fk g 5 "names_between" 3 m_names_between := by
  obtain ⟨f, fd, Fd, hm⟩ := T.d_names_between
  refine fk_mk (j := 4) (N := N_names_between) (ps := ["players", "one", "other"]) Fd hm sc_names_between (Fd.binds fun _ _ _ _ _ _ us hl => match us, hl with | [_, _, _], _ => rfl) fun cdv A outer s H E F0 => ?_
  exact (ss_cons (ss_if (st_not (st_val (se_call F0 (k_is_integer T) (sa_cons (se_var 0) (sa_cons se_int (sa_cons se_int sa_nil)))))) (ss_cons (ss_raise 0 F0 T.x_InvalidPlayers PySem.F.excBase_ValueError)
    ss_nil) ss_nil)
    (ss_cons (ss_expr (se_call F0 (k_check_plan T) (sa_cons (se_var 0) (sa_cons (se_var 1) sa_nil))))
    (ss_cons (ss_expr (se_call F0 (k_check_plan T) (sa_cons (se_var 0) (sa_cons (se_var 2) sa_nil))))
    (ss_cons (ss_set .dat 3 F0 (SE.dat (se_if (st_cmp (ok_eq F0) (se_callB F0 T.b_len PySem.boot_len (ok_len F0) (sa_cons (se_var 1) sa_nil)) (se_callB F0 T.b_len PySem.boot_len (ok_len F0) (sa_cons (se_var 2) sa_nil))) (SF.se (sf_lst (sa_cons (se_tup sa_nil) sa_nil))) (SF.se (sf_lst sa_nil)))))
    (ss_cons (ss_for F0 (si_range1 F0 T.b_range (sa_cons (se_var 0) sa_nil)) (sg_name 4 F0) (ss_cons (ss_set .own 5 F0 (SF.own (sf_lst sa_nil)))
    (ss_cons (ss_for F0 (si_seq F0 (se_var 3)) (sg_name 6 F0) (ss_cons (ss_for F0 (si_range1 F0 T.b_range (sa_cons (se_var 0) sa_nil)) (sg_name 7 F0) (ss_cons (ss_if (st_cmp (ok_notIn F0) (se_var 7) (se_var 6)) (ss_cons (ss_set .dat 8 F0 (SE.dat (se_bin (ok_add F0) (se_var 6) (se_tup (sa_cons (se_var 7) sa_nil)))))
    (ss_cons (ss_if (st_val (se_callB F0 T.b_all (by decide +kernel) (ok_all F0) (sa_cons (SF.se (sf_lc [("three", 9)] N_names_between F0 (si_seq F0 (se_var 1)) (sg_name 9 (F0.blk _)) (sq_one (st_cmp (ok_eq (F0.blk _)) (se_ix (F0.blk _) (se_var 9) se_int) (se_var 4))) (se_call (F0.blk _) (k_goes T) (sa_cons (se_var 9) (sa_cons (se_var 8) (sa_cons (se_var 2) sa_nil)))))) sa_nil))) (ss_cons (ss_app 5 F0 (se_var 8))
    ss_nil) ss_nil)
    ss_nil)) ss_nil)
    ss_nil))
    ss_nil))
    (ss_frz 5 (ss_cons (ss_set .dat 3 F0 (SE.dat (se_var 5)))
    ss_nil)))))
    (ss_cons (ss_ret (se_if (st_cmp (ok_ne F0) (se_var 3) (SF.se (sf_lst sa_nil))) (se_ix F0 (se_var 3) se_int) se_non))
    ss_nil))))))
theorem k__law_cell_at (T : Top g) : Fk g 1 "_law_cell_at" 2 (m__law_cell_at g.wd.ns) := by
  obtain ⟨f, fd, Fd, hm⟩ := T.d__law_cell_at
  refine fk_mk (j := 0) (N := N__law_cell_at) (ps := ["script", "k"]) Fd hm sc__law_cell_at (Fd.binds fun _ _ _ _ _ _ us hl => match us, hl with | [_, _], _ => rfl) fun cdv A outer s H E F0 => ?_
  exact (ss_cons (ss_if (st_cmp (ok_lt F0) (se_var 1) (se_callB F0 T.b_len PySem.boot_len (ok_lenS F0) (sa_cons (se_var 0) sa_nil))) (ss_cons (ss_ret (se_ixS F0 (se_var 0) (se_var 1)))
    ss_nil) ss_nil)
    (ss_cons (ss_if (st_cmp (ok_eqS F0) (se_var 0) (SF.se (sf_lst sa_nil))) (ss_cons (ss_ret se_int)
    ss_nil) ss_nil)
    (ss_cons (ss_set .dat 2 F0 (SE.dat (se_ixS F0 (se_var 0) (se_bin (ok_mod F0) (se_var 1) (se_callB F0 T.b_len PySem.boot_len (ok_lenS F0) (sa_cons (se_var 0) sa_nil))))))
    (ss_cons (ss_for F0 (si_range1 F0 T.b_range (sa_cons (se_callB F0 T.b_min (by decide +kernel) (ok_min2 F0) (sa_cons (se_bin (ok_fdiv F0) (se_var 1) (se_callB F0 T.b_len PySem.boot_len (ok_lenS F0) (sa_cons (se_var 0) sa_nil))) (sa_cons se_int sa_nil))) sa_nil)) (sg_name 3 F0) (ss_cons (ss_set .dat 2 F0 (SE.dat (se_bin (ok_fdiv F0) (se_var 2) se_int)))
    ss_nil))
    (ss_cons (ss_ret (se_bin (ok_add F0) (se_bin (ok_add F0) (se_bin (ok_mul F0) (se_ixS F0 (se_var 0) (se_bin (ok_mod F0) (se_var 1) (se_callB F0 T.b_len PySem.boot_len (ok_lenS F0) (sa_cons (se_var 0) sa_nil)))) se_int) (se_var 1)) (se_bin (ok_mul F0) (se_var 2) se_int)))
    ss_nil)))))
theorem k__law_mixed (T : Top g) : Fk g 2 "_law_mixed" 3 (m__law_mixed g.wd.ns) := by
  obtain ⟨f, fd, Fd, hm⟩ := T.d__law_mixed
  refine fk_mk (j := 1) (N := N__law_mixed) (ps := ["script", "k", "many"]) Fd hm sc__law_mixed (Fd.binds fun _ _ _ _ _ _ us hl => match us, hl with | [_, _, _], _ => rfl) fun cdv A outer s H E F0 => ?_
  exact (ss_cons (ss_set .dat 3 F0 (SE.dat (se_bin (ok_mod F0) (se_bin (ok_add F0) (se_bin (ok_add F0) (se_bin (ok_mul F0) (se_call F0 (k__law_cell_at T) (sa_cons (se_var 0) (sa_cons (se_var 1) sa_nil))) se_int) (se_bin (ok_mul F0) se_int (se_var 1))) se_int) se_int)))
    (ss_cons (ss_ret (se_bin (ok_mod F0) (se_bin (ok_mod F0) (se_bin (ok_mod F0) (se_bin (ok_pow F0) (se_var 3) se_int) se_int) se_int) (se_var 2)))
    ss_nil))
theorem k__law_draw (T : Top g) : Fk g 3 "_law_draw" 3 (m__law_draw g.wd.ns) := by
  obtain ⟨f, fd, Fd, hm⟩ := T.d__law_draw
  refine fk_mk (j := 2) (N := N__law_draw) (ps := ["script", "town", "many"]) Fd hm sc__law_draw (Fd.binds fun _ _ _ _ _ _ us hl => match us, hl with | [_, _, _], _ => rfl) fun cdv A outer s H E F0 => ?_
  exact (ss_cons (ss_twApp 1 F0)
    (ss_cons (ss_ret (se_call F0 (k__law_mixed T) (sa_cons (se_var 0) (sa_cons (se_lenTw 1 F0 T.b_len) (sa_cons (se_var 2) sa_nil)))))
    ss_nil))
theorem k__law_small_ones (T : Top g) : Fk g 6 "_law_small_ones" 0 m__law_small_ones := by
  obtain ⟨f, fd, Fd, hm⟩ := T.d__law_small_ones
  refine fk_mk (j := 5) (N := N__law_small_ones) (ps := []) Fd hm sc__law_small_ones (Fd.binds fun _ _ _ _ _ _ us hl => match us, hl with | [], _ => rfl) fun cdv A outer s H E F0 => ?_
  exact (ss_cons (ss_set .dat 0 F0 (SE.dat (se_tup (sa_cons (se_tup (sa_cons se_int (sa_cons se_int (sa_cons se_int sa_nil)))) (sa_cons (se_tup (sa_cons se_int (sa_cons se_int (sa_cons se_int sa_nil)))) sa_nil)))))
    (ss_cons (ss_if (SW.st (sw_or (st_cmp (ok_isNot F0) (se_call F0 (k_is_plan T) (sa_cons se_int (sa_cons (se_var 0) sa_nil))) se_bl) (sw_or1 (st_cmp (ok_ne F0) (se_call F0 (k_pairs_left T) (sa_cons se_int (sa_cons (se_tup (sa_cons (se_tup (sa_cons se_int (sa_cons se_int (sa_cons se_int sa_nil)))) sa_nil)) sa_nil))) (SF.se (sf_lst (sa_cons (se_tup (sa_cons se_int (sa_cons se_int sa_nil))) (sa_cons (se_tup (sa_cons se_int (sa_cons se_int sa_nil))) (sa_cons (se_tup (sa_cons se_int (sa_cons se_int sa_nil))) sa_nil))))))))) (ss_cons (ss_ret se_bl)
    ss_nil) ss_nil)
    (ss_cons (ss_if (st_cmp (ok_ne F0) (se_call F0 (k_partners T) (sa_cons se_int (sa_cons (se_var 0) (sa_cons se_int sa_nil)))) (SF.se (sf_lst (sa_cons se_int (sa_cons se_int sa_nil))))) (ss_cons (ss_ret se_bl)
    ss_nil) ss_nil)
    (ss_cons (ss_if (SW.st (sw_or (st_cmp (ok_ne F0) (se_call F0 (k_open_threes T) (sa_cons se_int (sa_cons (se_tup (sa_cons (se_tup (sa_cons se_int (sa_cons se_int (sa_cons se_int sa_nil)))) sa_nil)) sa_nil))) (SF.se (sf_lst (sa_cons (se_tup (sa_cons se_int (sa_cons se_int (sa_cons se_int sa_nil)))) (sa_cons (se_tup (sa_cons se_int (sa_cons se_int (sa_cons se_int sa_nil)))) (sa_cons (se_tup (sa_cons se_int (sa_cons se_int (sa_cons se_int sa_nil)))) sa_nil)))))) (sw_or1 (st_cmp (ok_ne F0) (se_call F0 (k_completion T) (sa_cons se_int (sa_cons (se_tup (sa_cons (se_tup (sa_cons se_int (sa_cons se_int (sa_cons se_int sa_nil)))) sa_nil)) sa_nil))) (se_var 0))))) (ss_cons (ss_ret se_bl)
    ss_nil) ss_nil)
    (ss_cons (ss_if (SW.st (sw_or (st_cmp (ok_isNot F0) (se_call F0 (k_is_full T) (sa_cons se_int (sa_cons (se_tup (sa_cons (se_tup (sa_cons se_int (sa_cons se_int (sa_cons se_int sa_nil)))) sa_nil)) sa_nil))) se_bl) (sw_or (st_cmp (ok_ne F0) (se_call F0 (k_full_plan T) (sa_cons se_int (sa_cons (se_tup sa_nil) sa_nil))) (se_tup (sa_cons (se_tup (sa_cons se_int (sa_cons se_int (sa_cons se_int sa_nil)))) sa_nil))) (sw_or1 (st_cmp (ok_ne F0) (se_call F0 (k_count_full T) (sa_cons se_int (sa_cons (se_tup sa_nil) sa_nil))) se_int))))) (ss_cons (ss_ret se_bl)
    ss_nil) ss_nil)
    (ss_cons (ss_set .dat 1 F0 (SE.dat (se_tup (sa_cons (se_tup (sa_cons se_int (sa_cons se_int (sa_cons se_int sa_nil)))) (sa_cons (se_tup (sa_cons se_int (sa_cons se_int (sa_cons se_int sa_nil)))) (sa_cons (se_tup (sa_cons se_int (sa_cons se_int (sa_cons se_int sa_nil)))) (sa_cons (se_tup (sa_cons se_int (sa_cons se_int (sa_cons se_int sa_nil)))) sa_nil)))))))
    (ss_cons (ss_set .dat 2 F0 (SE.dat (se_tup (sa_cons (se_tup (sa_cons se_int (sa_cons se_int (sa_cons se_int sa_nil)))) (sa_cons (se_tup (sa_cons se_int (sa_cons se_int (sa_cons se_int sa_nil)))) (sa_cons (se_tup (sa_cons se_int (sa_cons se_int (sa_cons se_int sa_nil)))) (sa_cons (se_tup (sa_cons se_int (sa_cons se_int (sa_cons se_int sa_nil)))) sa_nil)))))))
    (ss_cons (ss_if (SW.st (sw_or (st_cmp (ok_ne F0) (se_call F0 (k_fours T) (sa_cons se_int (sa_cons (se_var 1) sa_nil))) (SF.se (sf_lst (sa_cons (se_var 1) sa_nil)))) (sw_or (st_cmp (ok_ne F0) (se_call F0 (k_exchanged T) (sa_cons se_int (sa_cons (se_var 1) (sa_cons (se_var 1) sa_nil)))) (se_var 2)) (sw_or1 (st_cmp (ok_ne F0) (se_call F0 (k_exchanged T) (sa_cons se_int (sa_cons (se_var 2) (sa_cons (se_var 2) sa_nil)))) (se_var 1)))))) (ss_cons (ss_ret se_bl)
    ss_nil) ss_nil)
    (ss_cons (ss_if (SW.st (sw_or (st_cmp (ok_isNot F0) (se_call F0 (k_is_day T) (sa_cons se_int (sa_cons (se_tup (sa_cons (se_tup (sa_cons se_int (sa_cons se_int (sa_cons se_int sa_nil)))) (sa_cons (se_tup (sa_cons se_int (sa_cons se_int (sa_cons se_int sa_nil)))) sa_nil))) sa_nil))) se_bl) (sw_or1 (st_cmp (ok_ne F0) (se_call F0 (k_days_in T) (sa_cons se_int (sa_cons (se_tup (sa_cons (se_tup (sa_cons se_int (sa_cons se_int (sa_cons se_int sa_nil)))) (sa_cons (se_tup (sa_cons se_int (sa_cons se_int (sa_cons se_int sa_nil)))) sa_nil))) sa_nil))) (SF.se (sf_lst (sa_cons (se_tup (sa_cons (se_tup (sa_cons se_int (sa_cons se_int (sa_cons se_int sa_nil)))) (sa_cons (se_tup (sa_cons se_int (sa_cons se_int (sa_cons se_int sa_nil)))) sa_nil))) sa_nil))))))) (ss_cons (ss_ret se_bl)
    ss_nil) ss_nil)
    (ss_cons (ss_if (SW.st (sw_or (st_cmp (ok_ne F0) (se_call F0 (k_into_days T) (sa_cons se_int (sa_cons (se_tup (sa_cons (se_tup (sa_cons se_int (sa_cons se_int (sa_cons se_int sa_nil)))) sa_nil)) sa_nil))) (SF.se (sf_lst (sa_cons (se_tup (sa_cons (se_tup (sa_cons se_int (sa_cons se_int (sa_cons se_int sa_nil)))) sa_nil)) sa_nil)))) (sw_or1 (st_cmp (ok_ne F0) (se_call F0 (k_renamed T) (sa_cons se_int (sa_cons (se_tup (sa_cons (se_tup (sa_cons se_int (sa_cons se_int (sa_cons se_int sa_nil)))) sa_nil)) (sa_cons (se_tup (sa_cons se_int (sa_cons se_int (sa_cons se_int (sa_cons se_int sa_nil))))) sa_nil)))) (se_tup (sa_cons (se_tup (sa_cons se_int (sa_cons se_int (sa_cons se_int sa_nil)))) sa_nil)))))) (ss_cons (ss_ret se_bl)
    ss_nil) ss_nil)
    (ss_cons (ss_ret (se_and (se_cmp (ok_eq F0) (se_call F0 (k_names_between T) (sa_cons se_int (sa_cons (se_tup (sa_cons (se_tup (sa_cons se_int (sa_cons se_int (sa_cons se_int sa_nil)))) sa_nil)) (sa_cons (se_tup (sa_cons (se_tup (sa_cons se_int (sa_cons se_int (sa_cons se_int sa_nil)))) sa_nil)) sa_nil)))) (se_tup (sa_cons se_int (sa_cons se_int (sa_cons se_int (sa_cons se_int sa_nil)))))) (se_one (se_cmp (ok_is F0) (se_call F0 (k_names_between T) (sa_cons se_int (sa_cons (se_tup sa_nil) (sa_cons (se_tup (sa_cons (se_tup (sa_cons se_int (sa_cons se_int (sa_cons se_int sa_nil)))) sa_nil)) sa_nil)))) se_non))))
    ss_nil)))))))))))
theorem fn_law (T : Top g) {f : Addr} {fd : FuncData} (Fd : Fun g.wd.K "law" "law" st_law f fd) : FnOk g.P g.w g.wd.K g.mg g.base (L2.CX g.P g.w) 7 f fd ["script"] (spD g.wd 1 (m_law g.wd.ns)) := by
  refine fn_mk (j := 6) (N := N_law) (ps := ["script"]) Fd sc_law fun cdv A outer s H E F0 => ?_
  exact (ss_cons (ss_town 1 F0)
    (ss_cons (ss_set .dat 2 F0 (SE.dat (se_bin (ok_add F0) se_int (se_call F0 (k__law_draw T) (sa_cons (se_var 0) (sa_cons (se_var 1) (sa_cons se_int sa_nil)))))))
    (ss_cons (ss_set .dat 3 F0 (SE.dat (se_call F0 (k_completion T) (sa_cons (se_var 2) (sa_cons (se_tup sa_nil) sa_nil)))))
    (ss_cons (ss_set .dat 4 F0 (SE.dat (se_dget F0 (se_disp [(3, 1), (4, 1), (5, 2), (6, 4), (7, 7), (8, 7), (9, 7)] (fun _ => (pps_cons pe_int pe_int (pps_cons pe_int pe_int (pps_cons pe_int pe_int (pps_cons pe_int pe_int (pps_cons pe_int pe_int (pps_cons pe_int pe_int (pps_cons pe_int pe_int pps_nil))))))))) (se_var 2))))
    (ss_cons (ss_if (SW.st (sw_or (st_cmp (ok_ne F0) (se_ix F0 (se_var 3) se_int) (se_tup (sa_cons se_int (sa_cons se_int (sa_cons se_int sa_nil))))) (sw_or (st_cmp (ok_gt F0) (se_callB F0 T.b_len PySem.boot_len (ok_len F0) (sa_cons (se_var 3) sa_nil)) (se_call F0 (k_greatest T) (sa_cons (se_var 2) sa_nil))) (sw_or1 (st_cmp (ok_ne F0) (se_call F0 (k_open_threes T) (sa_cons (se_var 2) (sa_cons (se_var 3) sa_nil))) (SF.se (sf_lst sa_nil))))))) (ss_cons (ss_ret se_bl)
    ss_nil) ss_nil)
    (ss_cons (ss_if (SW.st (sw_or (SW.st (sw_and (st_cmp (ok_lt F0) (se_var 2) se_int) (sw_and1 (st_cmp (ok_ne F0) (se_callB F0 T.b_len PySem.boot_len (ok_len F0) (sa_cons (se_var 3) sa_nil)) (se_var 4))))) (sw_or1 (SW.st (sw_and (st_cmp (ok_gt F0) (se_var 2) se_int) (sw_and1 (st_cmp (ok_lt F0) (se_callB F0 T.b_len PySem.boot_len (ok_len F0) (sa_cons (se_var 3) sa_nil)) se_int))))))) (ss_cons (ss_ret se_bl)
    ss_nil) ss_nil)
    (ss_cons (ss_if (st_cmp (ok_ne F0) (SF.se (sf_lc [("players", 5)] N_law F0 (si_seq F0 (se_tup (sa_cons se_int (sa_cons se_int (sa_cons se_int (sa_cons se_int sa_nil)))))) (sg_name 5 (F0.blk _)) sq_nil (se_call (F0.blk _) (k_count_full T) (sa_cons (se_var 5) (sa_cons (se_tup sa_nil) sa_nil))))) (se_bin (ok_mul F0) (SF.se (sf_lst (sa_cons se_int sa_nil))) se_int)) (ss_cons (ss_ret se_bl)
    ss_nil) ss_nil)
    (ss_cons (ss_if (st_cmp (ok_ne F0) (se_call F0 (k_count_full T) (sa_cons se_int (sa_cons (se_tup (sa_cons (se_tup (sa_cons se_int (sa_cons se_int (sa_cons se_int sa_nil)))) (sa_cons (se_tup (sa_cons se_int (sa_cons se_int (sa_cons se_int sa_nil)))) (sa_cons (se_tup (sa_cons se_int (sa_cons se_int (sa_cons se_int sa_nil)))) sa_nil)))) sa_nil))) se_int) (ss_cons (ss_ret se_bl)
    ss_nil) ss_nil)
    (ss_cons (ss_set .dat 6 F0 (SE.dat (se_tup (sa_cons (se_tup (sa_cons se_int (sa_cons se_int (sa_cons se_int sa_nil)))) (sa_cons (se_tup (sa_cons se_int (sa_cons se_int (sa_cons se_int sa_nil)))) (sa_cons (se_tup (sa_cons se_int (sa_cons se_int (sa_cons se_int sa_nil)))) (sa_cons (se_tup (sa_cons se_int (sa_cons se_int (sa_cons se_int sa_nil)))) (sa_cons (se_tup (sa_cons se_int (sa_cons se_int (sa_cons se_int sa_nil)))) (sa_cons (se_tup (sa_cons se_int (sa_cons se_int (sa_cons se_int sa_nil)))) (sa_cons (se_tup (sa_cons se_int (sa_cons se_int (sa_cons se_int sa_nil)))) sa_nil))))))))))
    (ss_cons (ss_if (SW.st (sw_or (st_cmp (ok_ne F0) (se_call F0 (k_full_plan T) (sa_cons se_int (sa_cons (se_tup sa_nil) sa_nil))) (se_var 6)) (sw_or (st_cmp (ok_isNot F0) (se_call F0 (k_is_full T) (sa_cons se_int (sa_cons (se_var 6) sa_nil))) se_bl) (sw_or1 (st_cmp (ok_ne F0) (se_callB F0 T.b_len PySem.boot_len (ok_len F0) (sa_cons (se_call F0 (k_fours T) (sa_cons se_int (sa_cons (se_var 6) sa_nil))) sa_nil)) se_int))))) (ss_cons (ss_ret se_bl)
    ss_nil) ss_nil)
    (ss_cons (ss_set .dat 7 F0 (SE.dat (se_call F0 (k_full_plan T) (sa_cons se_int (sa_cons (se_tup (sa_cons (se_tup (sa_cons se_int (sa_cons se_int (sa_cons se_int sa_nil)))) (sa_cons (se_tup (sa_cons se_int (sa_cons se_int (sa_cons se_int sa_nil)))) (sa_cons (se_tup (sa_cons se_int (sa_cons se_int (sa_cons se_int sa_nil)))) (sa_cons (se_tup (sa_cons se_int (sa_cons se_int (sa_cons se_int sa_nil)))) sa_nil))))) sa_nil)))))
    (ss_cons (ss_if (SW.st (sw_or (st_cmp (ok_isNot F0) (se_call F0 (k_is_full T) (sa_cons se_int (sa_cons (se_var 7) sa_nil))) se_bl) (sw_or (st_cmp (ok_ne F0) (se_callB F0 T.b_len PySem.boot_len (ok_len F0) (sa_cons (se_var 7) sa_nil)) se_int) (sw_or (st_cmp (ok_ne F0) (se_call F0 (k_fours T) (sa_cons se_int (sa_cons (se_var 7) sa_nil))) (SF.se (sf_lst sa_nil))) (sw_or1 (st_cmp (ok_ne F0) (se_callB F0 T.b_len PySem.boot_len (ok_len F0) (sa_cons (se_call F0 (k_into_days T) (sa_cons se_int (sa_cons (se_var 7) sa_nil))) sa_nil)) se_int)))))) (ss_cons (ss_ret se_bl)
    ss_nil) ss_nil)
    (ss_cons (ss_if (SW.st (sw_or (st_cmp (ok_ne F0) (se_ix F0 (se_call F0 (k_into_days T) (sa_cons se_int (sa_cons (se_var 7) sa_nil))) se_int) (se_tup (sa_cons (se_tup (sa_cons se_int (sa_cons se_int (sa_cons se_int sa_nil)))) (sa_cons (se_tup (sa_cons se_int (sa_cons se_int (sa_cons se_int sa_nil)))) (sa_cons (se_tup (sa_cons se_int (sa_cons se_int (sa_cons se_int sa_nil)))) sa_nil))))) (sw_or1 (st_cmp (ok_ne F0) (se_callB F0 T.b_len PySem.boot_len (ok_len F0) (sa_cons (se_call F0 (k_days_in T) (sa_cons se_int (sa_cons (se_var 7) sa_nil))) sa_nil)) se_int)))) (ss_cons (ss_ret se_bl)
    ss_nil) ss_nil)
    (ss_cons (ss_ret (se_call0 F0 (k__law_small_ones T)))
    ss_nil))))))))))))))
end
structure TopK (K : PySem.W.Frag) : Prop where
  b_all : PySem.W.nsIn K mainGlobals "all" = some none
  b_any : PySem.W.nsIn K mainGlobals "any" = some none
  b_bool : PySem.W.nsIn K mainGlobals "bool" = some none
  b_int : PySem.W.nsIn K mainGlobals "int" = some none
  b_isinstance : PySem.W.nsIn K mainGlobals "isinstance" = some none
  b_len : PySem.W.nsIn K mainGlobals "len" = some none
  b_list : PySem.W.nsIn K mainGlobals "list" = some none
  b_max : PySem.W.nsIn K mainGlobals "max" = some none
  b_min : PySem.W.nsIn K mainGlobals "min" = some none
  b_range : PySem.W.nsIn K mainGlobals "range" = some none
  b_set : PySem.W.nsIn K mainGlobals "set" = some none
  b_sorted : PySem.W.nsIn K mainGlobals "sorted" = some none
  b_tuple : PySem.W.nsIn K mainGlobals "tuple" = some none
  b_zip : PySem.W.nsIn K mainGlobals "zip" = some none
  x_InvalidFour : ExIn K 4
  x_InvalidNames : ExIn K 5
  x_InvalidPlan : ExIn K 2
  x_InvalidPlayer : ExIn K 3
  x_InvalidPlayers : ExIn K 0
  x_NoDays : ExIn K 7
  x_NoPlan : ExIn K 6
  d_is_integer : DefIn K "is_integer" st_is_integer
  d_check_players : DefIn K "check_players" st_check_players
  d_fits : DefIn K "fits" st_fits
  d_pairs_of : DefIn K "pairs_of" st_pairs_of
  d_pairs_met : DefIn K "pairs_met" st_pairs_met
  d_stands : DefIn K "stands" st_stands
  d_is_plan : DefIn K "is_plan" st_is_plan
  d_check_plan : DefIn K "check_plan" st_check_plan
  d_all_pairs : DefIn K "all_pairs" st_all_pairs
  d_left_of : DefIn K "left_of" st_left_of
  d_pairs_left : DefIn K "pairs_left" st_pairs_left
  d_is_full : DefIn K "is_full" st_is_full
  d_partners : DefIn K "partners" st_partners
  d_open_list : DefIn K "open_list" st_open_list
  d_open_threes : DefIn K "open_threes" st_open_threes
  d_completion : DefIn K "completion" st_completion
  d_greatest : DefIn K "greatest" st_greatest
  d_full_plans : DefIn K "full_plans" st_full_plans
  d_full_plan : DefIn K "full_plan" st_full_plan
  d_count_full : DefIn K "count_full" st_count_full
  d_makes_day : DefIn K "makes_day" st_makes_day
  d_is_day : DefIn K "is_day" st_is_day
  d_day_list : DefIn K "day_list" st_day_list
  d_days_in : DefIn K "days_in" st_days_in
  d_into_days : DefIn K "into_days" st_into_days
  d_players_of : DefIn K "players_of" st_players_of
  d_four_list : DefIn K "four_list" st_four_list
  d_fours : DefIn K "fours" st_fours
  d_opposite : DefIn K "opposite" st_opposite
  d_exchanged : DefIn K "exchanged" st_exchanged
  d_named : DefIn K "named" st_named
  d_renamed : DefIn K "renamed" st_renamed
  d_goes : DefIn K "goes" st_goes
  d_names_between : DefIn K "names_between" st_names_between
  d__law_cell_at : DefIn K "_law_cell_at" st__law_cell_at
  d__law_mixed : DefIn K "_law_mixed" st__law_mixed
  d__law_draw : DefIn K "_law_draw" st__law_draw
  d__law_small_ones : DefIn K "_law_small_ones" st__law_small_ones
  d_law : DefIn K "law" st_law
theorem top_of {K : PySem.W.Frag} {h : Heap} {mg : Str → Option Value} {sa : Addr} {ns : List Int} {P : Program} {w : World} {base : Heap} (T : TopK K) (X : K.In h) (G : h.Ns mainGlobals mg) : Top ⟨wdOf K sa ns, P, w, mg, base⟩ where
  b_all := PySem.W.mg_none_of X G T.b_all
  b_any := PySem.W.mg_none_of X G T.b_any
  b_bool := PySem.W.mg_none_of X G T.b_bool
  b_int := PySem.W.mg_none_of X G T.b_int
  b_isinstance := PySem.W.mg_none_of X G T.b_isinstance
  b_len := PySem.W.mg_none_of X G T.b_len
  b_list := PySem.W.mg_none_of X G T.b_list
  b_max := PySem.W.mg_none_of X G T.b_max
  b_min := PySem.W.mg_none_of X G T.b_min
  b_range := PySem.W.mg_none_of X G T.b_range
  b_set := PySem.W.mg_none_of X G T.b_set
  b_sorted := PySem.W.mg_none_of X G T.b_sorted
  b_tuple := PySem.W.mg_none_of X G T.b_tuple
  b_zip := PySem.W.mg_none_of X G T.b_zip
  x_InvalidFour := T.x_InvalidFour.top X G
  x_InvalidNames := T.x_InvalidNames.top X G
  x_InvalidPlan := T.x_InvalidPlan.top X G
  x_InvalidPlayer := T.x_InvalidPlayer.top X G
  x_InvalidPlayers := T.x_InvalidPlayers.top X G
  x_NoDays := T.x_NoDays.top X G
  x_NoPlan := T.x_NoPlan.top X G
  d_is_integer := T.d_is_integer.top X G
  d_check_players := T.d_check_players.top X G
  d_fits := T.d_fits.top X G
  d_pairs_of := T.d_pairs_of.top X G
  d_pairs_met := T.d_pairs_met.top X G
  d_stands := T.d_stands.top X G
  d_is_plan := T.d_is_plan.top X G
  d_check_plan := T.d_check_plan.top X G
  d_all_pairs := T.d_all_pairs.top X G
  d_left_of := T.d_left_of.top X G
  d_pairs_left := T.d_pairs_left.top X G
  d_is_full := T.d_is_full.top X G
  d_partners := T.d_partners.top X G
  d_open_list := T.d_open_list.top X G
  d_open_threes := T.d_open_threes.top X G
  d_completion := T.d_completion.top X G
  d_greatest := T.d_greatest.top X G
  d_full_plans := T.d_full_plans.top X G
  d_full_plan := T.d_full_plan.top X G
  d_count_full := T.d_count_full.top X G
  d_makes_day := T.d_makes_day.top X G
  d_is_day := T.d_is_day.top X G
  d_day_list := T.d_day_list.top X G
  d_days_in := T.d_days_in.top X G
  d_into_days := T.d_into_days.top X G
  d_players_of := T.d_players_of.top X G
  d_four_list := T.d_four_list.top X G
  d_fours := T.d_fours.top X G
  d_opposite := T.d_opposite.top X G
  d_exchanged := T.d_exchanged.top X G
  d_named := T.d_named.top X G
  d_renamed := T.d_renamed.top X G
  d_goes := T.d_goes.top X G
  d_names_between := T.d_names_between.top X G
  d__law_cell_at := T.d__law_cell_at.top X G
  d__law_mixed := T.d__law_mixed.top X G
  d__law_draw := T.d__law_draw.top X G
  d__law_small_ones := T.d__law_small_ones.top X G
  d_law := T.d_law.top X G
theorem law_mk {P : Program} {w : World} {K : PySem.W.Frag} {h : Heap} {mg : Str → Option Value} {fa : Addr} (hm : ∀ ns : List Int, ns.length ≤ 63 → ∃ S', m_law ns [.sc] ⟨none, []⟩ = some (.ok (.d (.bool true)), S')) (T : TopK K) (X : K.In h) (G : h.Ns mainGlobals mg) (hfa : mg "law" = some (.ref fa)) :
    ∃ fd : FuncData, (∀ (s : Shared) (u : Value), BindsTo s fd ⟨[u], []⟩ [("script", u)]) ∧ ∀ base : Heap, K.In base → base.Ns mainGlobals mg → FnOk P w K mg base (L2.CX P w) 7 fa fd ["script"] (spLaw K 63) := by
  obtain ⟨f, oc, od, an, osl, kV, doc, pm, cdv, ct, a, l, c, k⟩ := T.d_law
  have e := hfa.symm.trans (PySem.W.mg_of X G a)
  cases e
  exact ⟨_, fun s u => .of_eq rfl, fun base X' G' => law_fn (fun sa ns => fn_law (top_of (sa := sa) (ns := ns) T X' G') (fun_mk l c k)) hm⟩
end K10
/-! The script's draws. -/
namespace PM
open PySem DL
theorem seq_nx {a b : SemS} {δ δ1 : En} {S S1 : Sto} (h : a δ S = some (.nx, δ1, S1)) : sSeq a b δ S = b δ1 S1 := by
  unfold sSeq
  rw [h]
theorem seq_rt {a b : SemS} {δ δ1 : En} {S S1 : Sto} {u : U} (h : a δ S = some (.rt u, δ1, S1)) : sSeq a b δ S = some (.rt u, δ1, S1) := by
  unfold sSeq
  rw [h]
theorem seq_ex {a b : SemS} {δ δ1 : En} {S S1 : Sto} {c : Nat} (h : a δ S = some (.ex c, δ1, S1)) : sSeq a b δ S = some (.ex c, δ1, S1) := by
  unfold sSeq
  rw [h]
theorem fn_rt {n : Nat} {b : SemS} {us : List U} {S S1 : Sto} {u : U} {δ1 : En} (h : b (startE n us) S = some (.rt u, δ1, S1)) : fnSem n b us S = some (.ok u, S1) := by
  unfold fnSem
  rw [h]
theorem fn_ex {n : Nat} {b : SemS} {us : List U} {S S1 : Sto} {c : Nat} {δ1 : En} (h : b (startE n us) S = some (.ex c, δ1, S1)) : fnSem n b us S = some (.error c, S1) := by
  unfold fnSem
  rw [h]
theorem seq_assoc (a b c : SemS) : sSeq (sSeq a b) c = sSeq a (sSeq b c) := by
  funext δ S
  unfold sSeq
  cases a δ S with
  | none => rfl
  | some r =>
    obtain ⟨f, δ1, S1⟩ := r
    cases f <;> rfl
theorem seq_nil (c : SemS) : sSeq sNil c = c := rfl
theorem ixS_ok {ns : List Int} {k : Nat} (h : k < ns.length) : oIxS ns .sc (.d (.int (k : Int))) = some (.d (.int (ns[k]'h))) := by
  unfold oIxS L2.atI L2.ixN
  simp [h]
theorem spare_loop (k : U) : ∀ (l : List PyData) (z : Int) (x : Option Cell) (S : Sto), ∃ (z' : Int) (x' : Option Cell), forGo (.one 3) (sSeq (sSet .dat 2 (eOp oFdiv (eVar 2) (eC (.int 1000003)))) sNil) l [some (.u .sc), some (.u k), some (.u (.d (.int z))), x] S = some (.nx, [some (.u .sc), some (.u k), some (.u (.d (.int z'))), x'], S)
  | [], z, x, S => ⟨z, x, rfl⟩
  | a :: l, z, x, S => by
    obtain ⟨z', x', h⟩ := spare_loop k l (z.fdiv 1000003) (some (.u (.d a))) S
    refine ⟨z', x', ?_⟩
    rw [← h]
    simp [forGo, Tg.split, setD, sSeq, sSet, eOp, bnd, eVar, eC, oFdiv, put, sNil]
theorem cell_at (ns : List Int) (h63 : ns.length ≤ 63) (k : Nat) (S : Sto) : ∃ z, m__law_cell_at ns [.sc, .d (.int k)] S = some (.ok (.d (.int z)), S) := by
  unfold m__law_cell_at
  by_cases h : k < ns.length
  · refine ⟨ns[k], fn_rt (δ1 := startE 4 [.sc, .d (.int k)]) ?_⟩
    refine seq_rt ?_
    simp [sIf, tOf, eOp, bnd, eVar, startE, bor, borC, eBc, aCons, aNil, oLenS, cD, ltP, h, sSeq, sRet, ixS_ok h]
  · have e1 : sIf (tOf (eOp (cD ltP) (eVar 1) (eBc (oLenS ns) (aCons (eVar 0) aNil)))) (sSeq (sRet (eOp (oIxS ns) (eVar 0) (eVar 1))) sNil) sNil (startE 4 [.sc, .d (.int k)]) S = some (.nx, startE 4 [.sc, .d (.int k)], S) := by
      simp [sIf, tOf, eOp, bnd, eVar, startE, bor, borC, eBc, aCons, aNil, oLenS, cD, ltP, h, sNil]
    cases ns with
    | nil =>
      refine ⟨0, fn_rt (δ1 := startE 4 [.sc, .d (.int k)]) ?_⟩
      rw [seq_nx e1]
      exact seq_rt rfl
    | cons n0 nr =>
      have hl : 0 < (n0 :: nr).length := Nat.succ_pos _
      obtain ⟨ns, hns⟩ : ∃ ns, ns = n0 :: nr := ⟨_, rfl⟩
      have e0 : eqP (scD (n0 :: nr)) (.list []) = some false := by
        unfold eqP
        rw [if_pos (by rw [show dOk (.list []) = true by decide, Bool.or_true])]
        rfl
      have e2 : sIf (tOf (eOp (cEqS (n0 :: nr)) (eVar 0) (eLst aNil))) (sSeq (sRet (eC (.int 0))) sNil) sNil (startE 4 [.sc, .d (.int k)]) S = some (.nx, startE 4 [.sc, .d (.int k)], S) := by
        simp [sIf, tOf, eOp, bnd, eVar, startE, bor, borC, eLst, aNil, allD, cEqS, e0, sNil]
      rw [← hns] at e1 e2 hl h63 ⊢
      have hm : k % ns.length < ns.length := Nat.mod_lt _ hl
      have hq : ((k : Int).fmod (ns.length : Int)) = ((k % ns.length : Nat) : Int) := by
        rw [Int.fmod_eq_emod_of_nonneg _ (Int.natCast_nonneg _)]
        rfl
      obtain ⟨z, x', hz⟩ := spare_loop (.d (.int k)) (intsD 0 (if (60 : Int) < (k : Int).fdiv ns.length then (60 : Int) else (k : Int).fdiv ns.length).toNat) (ns[k % ns.length]) none S
      have e3 : sSet .dat 2 (eOp (oIxS ns) (eVar 0) (eOp oMod (eVar 1) (eBc (oLenS ns) (aCons (eVar 0) aNil)))) (startE 4 [.sc, .d (.int k)]) S = some (.nx, [some (.u .sc), some (.u (.d (.int k))), some (.u (.d (.int ns[k % ns.length]))), none], S) := by
        have hz0 : (ns.length : Int) ≠ 0 := by omega
        have hz1 : ¬ ns = [] := by intro z; rw [z] at hl; exact absurd hl (by decide)
        simp [sSet, eOp, bnd, eVar, startE, eBc, aCons, aNil, oLenS, oMod, hz0, hz1, hq, put, ixS_ok hm]
        rw [← Int.natCast_emod, ixS_ok hm]
      have hz0 : (ns.length : Int) ≠ 0 := by omega
      have hz1 : ¬ ns = [] := by intro z; rw [z] at hl; exact absurd hl (by decide)
      have hz2 : ns.length < 1073741824 := by omega
      have hq0 : (k : Int).fdiv ns.length = ((k / ns.length : Nat) : Int) := by
        rw [Int.fdiv_eq_ediv_of_nonneg _ (Int.natCast_nonneg _)]
        rfl
      have e4 : sFor (itR1 (aCons (eBc oMin2 (aCons (eOp oFdiv (eVar 1) (eBc (oLenS ns) (aCons (eVar 0) aNil))) (aCons (eC (.int 60)) aNil))) aNil)) (.one 3) (sSeq (sSet .dat 2 (eOp oFdiv (eVar 2) (eC (.int 1000003)))) sNil) [some (.u .sc), some (.u (.d (.int k))), some (.u (.d (.int ns[k % ns.length]))), none] S = some (.nx, [some (.u .sc), some (.u (.d (.int k))), some (.u (.d (.int z))), x'], S) := by
        rw [← hz]
        have hb : (if (60 : Int) < (k : Int).fdiv ns.length then (60 : Int) else (k : Int).fdiv ns.length).natAbs < 2 ^ 40 := by
          rw [hq0]
          have h0 : (0 : Int) ≤ ((k / ns.length : Nat) : Int) := Int.natCast_nonneg _
          generalize ((k / ns.length : Nat) : Int) = q' at h0 ⊢
          split <;> omega
        have ha : itR1 (aCons (eBc oMin2 (aCons (eOp oFdiv (eVar 1) (eBc (oLenS ns) (aCons (eVar 0) aNil))) (aCons (eC (.int 60)) aNil))) aNil) [some (.u .sc), some (.u (.d (.int k))), some (.u (.d (.int ns[k % ns.length]))), none] S = some (.ok (intsD 0 (if (60 : Int) < (k : Int).fdiv ns.length then (60 : Int) else (k : Int).fdiv ns.length).toNat), S) := by
          unfold itR1
          simp only [aCons, aNil, eBc, eOp, bnd, eVar, eC, oLenS, oMin2, oFdiv, List.getElem?_cons_zero, List.getElem?_cons_succ]
          rw [if_pos ⟨hz0, by simpa using hz2⟩]
          simp only []
          rw [if_pos hb]
        unfold sFor
        rw [ha]
      refine ⟨ns[k % ns.length] * 31 + k + z * 101, fn_rt (δ1 := [some (.u .sc), some (.u (.d (.int k))), some (.u (.d (.int z))), x']) ?_⟩
      rw [seq_nx e1, seq_nx e2, seq_nx e3, seq_nx e4]
      refine seq_rt ?_
      cases x' with
      | none =>
        simp [sRet, bor, borC, sSet, eOp, bnd, eVar, eC, startE, eBc, aCons, aNil, oLenS, oMod, oMul, oAdd, hz0, hz1, put]
        rw [hq, ixS_ok hm]
        simp
      | some c =>
        simp [sRet, bor, borC, sSet, eOp, bnd, eVar, eC, startE, eBc, aCons, aNil, oLenS, oMod, oMul, oAdd, hz0, hz1, put]
        rw [hq, ixS_ok hm]
        simp
theorem mixed (ns : List Int) (h63 : ns.length ≤ 63) (k : Nat) (m : Int) (hm : 0 < m) (S : Sto) : ∃ z, 0 ≤ z ∧ z < m ∧ m__law_mixed ns [.sc, .d (.int k), .d (.int m)] S = some (.ok (.d (.int z)), S) := by
  obtain ⟨c, hc⟩ := cell_at ns h63 k S
  have h0 : 0 ≤ (c * 1103515245 + 7919 * k + 12345).fmod 2147483647 := Int.fmod_nonneg_of_pos _ (by decide)
  have h1 : (c * 1103515245 + 7919 * k + 12345).fmod 2147483647 < 2147483647 := Int.fmod_lt_of_pos _ (by decide)
  have h2 : ((c * 1103515245 + 7919 * k + 12345).fmod 2147483647).natAbs < 2 ^ 64 := by omega
  refine ⟨(((((c * 1103515245 + 7919 * k + 12345).fmod 2147483647) ^ 5).fmod 2147483647).fmod 999983).fmod m, Int.fmod_nonneg_of_pos _ hm, Int.fmod_lt_of_pos _ hm, ?_⟩
  have e1 : sSet .dat 3 (eOp oMod (eOp oAdd (eOp oAdd (eOp oMul (eCall (m__law_cell_at ns) 2 (aCons (eVar 0) (aCons (eVar 1) aNil))) (eC (.int 1103515245))) (eOp oMul (eC (.int 7919)) (eVar 1))) (eC (.int 12345))) (eC (.int 2147483647))) (startE 4 [.sc, .d (.int k), .d (.int m)]) S = some (.nx, [some (.u .sc), some (.u (.d (.int k))), some (.u (.d (.int m))), some (.u (.d (.int ((c * 1103515245 + 7919 * k + 12345).fmod 2147483647))))], S) := by
    simp [sSet, eOp, bnd, eCall, startE, eVar, eC, aCons, aNil, hc, oMul, oAdd, oMod, put]
  unfold m__law_mixed
  refine fn_rt (δ1 := [some (.u .sc), some (.u (.d (.int k))), some (.u (.d (.int m))), some (.u (.d (.int ((c * 1103515245 + 7919 * k + 12345).fmod 2147483647))))]) ?_
  rw [seq_nx e1]
  generalize (c * 1103515245 + 7919 * k + 12345).fmod 2147483647 = q at h0 h1 h2 ⊢
  refine seq_rt ?_
  have hm' : m ≠ 0 := by omega
  simp [sRet, bor, borC, eOp, bnd, eVar, eC, oPow, oMod, h2, hm']
/-- a draw -/
theorem draw (ns : List Int) (h63 : ns.length ≤ 63) (t : Nat) (ht : t < 100000) (m : Int) (hm : 0 < m) (os : List Org) : ∃ z, 0 ≤ z ∧ z < m ∧ m__law_draw ns [.sc, .tw, .d (.int m)] ⟨some t, os⟩ = some (.ok (.d (.int z)), ⟨some (t + 1), os⟩) := by
  obtain ⟨z, h0, h1, e⟩ := mixed ns h63 (t + 1) m hm ⟨some (t + 1), os⟩
  refine ⟨z, h0, h1, ?_⟩
  unfold m__law_draw
  refine fn_rt (δ1 := startE 3 [.sc, .tw, .d (.int m)]) ?_
  have hl : t < LIM := Nat.lt_of_lt_of_le ht (by decide)
  have e1 : sTwApp 1 (startE 3 [.sc, .tw, .d (.int m)]) ⟨some t, os⟩ = some (.nx, startE 3 [.sc, .tw, .d (.int m)], ⟨some (t + 1), os⟩) := by
    simp [sTwApp, startE, hl]
  rw [seq_nx e1]
  refine seq_rt ?_
  have e' : m__law_mixed ns [.sc, .d (.int ((t : Int) + 1)), .d (.int m)] ⟨some (t + 1), os⟩ = some (.ok (.d (.int z)), ⟨some (t + 1), os⟩) := by
    rw [← e]; rfl
  simp [sRet, bor, borC, eCall, bnd, eVar, eC, aCons, aNil, eLenTw, startE, e']
end PM
/-! Rules for simp: each word at its cells. Printed by mkap.py. -/
namespace DL
open PySem L2
@[simp] theorem ap_eVar (i : Nat) (δ : En) (S : Sto) : eVar i δ S = (match δ[i]? with
  | some (some (.u x)) => some (.ok x, S)
  | _ => none) := rfl
@[simp] theorem ap_eC (x : PyData) (δ : En) (S : Sto) : eC x δ S = (some (.ok (.d x), S)) := rfl
@[simp] theorem ap_aNil (δ : En) (S : Sto) : aNil  δ S = (some (.ok [], S)) := rfl
@[simp] theorem ap_aCons (f : SemE) (r : SemA) (δ : En) (S : Sto) : aCons f r δ S = (bnd (f δ S) fun x S => bnd (r δ S) fun xs S => some (.ok (x :: xs), S)) := rfl
@[simp] theorem ap_eTup (a : SemA) (δ : En) (S : Sto) : eTup a δ S = (bnd (a δ S) fun us S => match allD us with
  | some ds => if ds.length ≤ 1000 then some (.ok (.d (.tuple ds)), S) else none
  | none => none) := rfl
@[simp] theorem ap_eLst (a : SemA) (δ : En) (S : Sto) : eLst a δ S = (bnd (a δ S) fun us S => match allD us with
  | some ds => if ds.length ≤ 1000 then some (.ok (.d (.list ds)), S) else none
  | none => none) := rfl
@[simp] theorem ap_eOp (op : U → U → Option U) (f h : SemE) (δ : En) (S : Sto) : eOp op f h δ S = (bnd (f δ S) fun x S => bnd (h δ S) fun y S => match op x y with
  | some z => some (.ok z, S)
  | none => none) := rfl
@[simp] theorem ap_tOf (f : SemE) (δ : En) (S : Sto) : tOf f δ S = (bnd (f δ S) fun x S => match x with
  | .d (.bool b) => some (.ok b, S)
  | _ => none) := rfl
@[simp] theorem ap_eChain (o o' : U → U → Option U) (f h l : SemE) (δ : En) (S : Sto) : eChain o o' f h l δ S = (bnd (f δ S) fun x S => bnd (h δ S) fun y S => match o x y with
  | some (.d (.bool true)) => bnd (l δ S) fun z S => (match o' y z with
    | some z => some (.ok z, S)
    | none => none)
  | some (.d (.bool false)) => some (.ok (.d (.bool false)), S)
  | _ => none) := rfl
@[simp] theorem ap_eAnd (f h : SemE) (δ : En) (S : Sto) : eAnd f h δ S = (bnd (f δ S) fun x S => match x with
  | .d (.bool true) => h δ S
  | .d (.bool false) => some (.ok (.d (.bool false)), S)
  | _ => none) := rfl
@[simp] theorem ap_eOr (f h : SemE) (δ : En) (S : Sto) : eOr f h δ S = (bnd (f δ S) fun x S => match x with
  | .d (.bool true) => some (.ok (.d (.bool true)), S)
  | .d (.bool false) => h δ S
  | _ => none) := rfl
@[simp] theorem ap_eNot (f : SemE) (δ : En) (S : Sto) : eNot f δ S = (bnd (f δ S) fun x S => match x with
  | .d (.bool b) => some (.ok (.d (.bool (!b))), S)
  | _ => none) := rfl
@[simp] theorem ap_eIf (c : SemT) (f h : SemE) (δ : En) (S : Sto) : eIf c f h δ S = (bnd (c δ S) fun b S => if b = true then f δ S else h δ S) := rfl
@[simp] theorem ap_tAndS (f h : SemT) (δ : En) (S : Sto) : tAndS f h δ S = (bnd (f δ S) fun b S => if b = true then h δ S else some (.ok false, S)) := rfl
@[simp] theorem ap_tOrS (f h : SemT) (δ : En) (S : Sto) : tOrS f h δ S = (bnd (f δ S) fun b S => if b = true then some (.ok true, S) else h δ S) := rfl
@[simp] theorem ap_tNotS (f : SemT) (δ : En) (S : Sto) : tNotS f δ S = (bnd (f δ S) fun b S => some (.ok (!b), S)) := rfl
@[simp] theorem ap_eBc (op : List U → Option U) (a : SemA) (δ : En) (S : Sto) : eBc op a δ S = (bnd (a δ S) fun us S => match op us with
  | some z => some (.ok z, S)
  | none => none) := rfl
@[simp] theorem ap_eIsT (T : Ty) (f : SemE) (δ : En) (S : Sto) : eIsT T f δ S = (bnd (f δ S) fun x S => match x with
  | .d x => some (.ok (.d (.bool (isT T x))), S)
  | _ => none) := rfl
@[simp] theorem ap_eNeg (f : SemE) (δ : En) (S : Sto) : eNeg f δ S = (bnd (f δ S) fun x S => match x with
  | .d (.int i) => some (.ok (.d (.int (-i))), S)
  | _ => none) := rfl
@[simp] theorem ap_oNo (δ : En) (S : Sto) : oNo  δ S = (some (.ok none, S)) := rfl
@[simp] theorem ap_oSome (f : SemE) (δ : En) (S : Sto) : oSome f δ S = (bnd (f δ S) fun x S => match x with
  | .d (.int i) => some (.ok (some i), S)
  | _ => none) := rfl
@[simp] theorem ap_eSl (f : SemE) (lo hi : SemO) (δ : En) (S : Sto) : eSl f lo hi δ S = (bnd (f δ S) fun x S => bnd (lo δ S) fun l S => bnd (hi δ S) fun u S => match x with
  | .d (.list xs) => some (.ok (.d (.list (cutD xs l u))), S)
  | .d (.tuple xs) => some (.ok (.d (.tuple (cutD xs l u))), S)
  | _ => none) := rfl
@[simp] theorem ap_itSeq (f : SemE) (δ : En) (S : Sto) : itSeq f δ S = (bnd (f δ S) fun x S => match x with
  | .d (.list xs) => some (.ok xs, S)
  | .d (.tuple xs) => some (.ok xs, S)
  | .d (.str z) => some (.ok (signs z), S)
  | _ => none) := rfl
@[simp] theorem ap_itR1 (a : SemA) (δ : En) (S : Sto) : itR1 a δ S = (bnd (a δ S) fun us S => match us with
  | [.d (.int n)] => if n.natAbs < 2 ^ 40 then some (.ok (intsD 0 n.toNat), S) else none
  | _ => none) := rfl
@[simp] theorem ap_itR2 (a : SemA) (δ : En) (S : Sto) : itR2 a δ S = (bnd (a δ S) fun us S => match us with
  | [.d (.int m), .d (.int n)] => if m.natAbs < 2 ^ 40 ∧ n.natAbs < 2 ^ 40 then some (.ok (intsD m (n - m).toNat), S) else none
  | _ => none) := rfl
@[simp] theorem ap_itZip (a : SemA) (δ : En) (S : Sto) : itZip a δ S = (bnd (a δ S) fun us S => match us with
  | [.d (.list xs), .d (.list ys)] => some (.ok (pairD xs ys), S)
  | [.d (.tuple xs), .d (.tuple ys)] => some (.ok (pairD xs ys), S)
  | _ => none) := rfl
@[simp] theorem ap_itEnum (a : SemA) (δ : En) (S : Sto) : itEnum a δ S = (bnd (a δ S) fun us S => match us with
  | [.d (.list xs)] => some (.ok (enumD xs), S)
  | _ => none) := rfl
@[simp] theorem ap_tTrue (δ : En) (S : Sto) : tTrue  δ S = (some (.ok true, S)) := rfl
@[simp] theorem ap_sNil (δ : En) (S : Sto) : sNil  δ S = (some (.nx, δ, S)) := rfl
@[simp] theorem ap_sSeq (s1 s2 : SemS) (δ : En) (S : Sto) : sSeq s1 s2 δ S = (match s1 δ S with
  | some (.nx, δ1, S1) => s2 δ1 S1
  | r => r) := rfl
@[simp] theorem ap_sRet (f : SemE) (δ : En) (S : Sto) : sRet f δ S = (match f (bor δ) S with
  | some (.ok u, S') => some (.rt u, δ, S')
  | some (.error c, S') => some (.ex c, δ, S')
  | none => none) := rfl
@[simp] theorem ap_sIf (c : SemT) (s1 s2 : SemS) (δ : En) (S : Sto) : sIf c s1 s2 δ S = (match c (bor δ) S with
  | some (.ok true, S') => s1 δ S'
  | some (.ok false, S') => s2 δ S'
  | some (.error c, S') => some (.ex c, δ, S')
  | none => none) := rfl
@[simp] theorem ap_sExpr (f : SemE) (δ : En) (S : Sto) : sExpr f δ S = (match f (bor δ) S with
  | some (.ok _, S') => some (.nx, δ, S')
  | some (.error c, S') => some (.ex c, δ, S')
  | none => none) := rfl
@[simp] theorem ap_sFrz (i : Nat) (f : SemS) (δ : En) (S : Sto) : sFrz i f δ S = (f (frz i δ) S) := rfl
@[simp] theorem ap_sAsg (i : Nat) (f : SemE) (δ : En) (S : Sto) : sAsg i f δ S = (match f δ S with
  | some (.ok u, S') => some (.nx, δ.set i (some (.u u)), S')
  | some (.error c, S') => some (.ex c, δ, S')
  | none => none) := rfl
@[simp] theorem ap_sAsgB (i : Nat) (f : SemE) (δ : En) (S : Sto) : sAsgB i f δ S = (match f (bor δ) S with
  | some (.ok u, S') => if noLstU u = true then some (.nx, δ.set i (some (.u u)), S') else none
  | some (.error c, S') => some (.ex c, δ, S')
  | none => none) := rfl
@[simp] theorem ap_sAsgF (i : Nat) (f : SemE) (δ : En) (S : Sto) : sAsgF i f δ S = (match f (bor δ) S with
  | some (.ok (.d (.list ds)), S') => if noLstAll ds = true then some (.nx, δ.set i (some (.u (.d (.list ds)))), S') else none
  | some (.error c, S') => some (.ex c, δ, S')
  | _ => none) := rfl
@[simp] theorem ap_sOwn (i : Nat) (f : SemE) (δ : En) (S : Sto) : sOwn i f δ S = (match f δ S with
  | some (.ok (.d (.list ds)), S') => some (.nx, δ.set i (some (.own ds)), S')
  | some (.error c, S') => some (.ex c, δ, S')
  | _ => none) := rfl
@[simp] theorem ap_sSet (kd : Kd) (i : Nat) (f : SemE) (δ : En) (S : Sto) : sSet kd i f δ S = (match f δ S with
  | some (.ok u, S') => (match put kd u with
    | some c => some (.nx, δ.set i (some c), S')
    | none => none)
  | some (.error c, S') => some (.ex c, δ, S')
  | none => none) := rfl
@[simp] theorem ap_sPar (k1 : Kd) (i : Nat) (f1 : SemE) (k2 : Kd) (j : Nat) (f2 : SemE) (δ : En) (S : Sto) : sPar k1 i f1 k2 j f2 δ S = (match f1 δ S with
  | some (.ok u, S1) => (match f2 δ S1 with
    | some (.ok w, S2) => (match put k1 u, put k2 w with
      | some c, some d => some (.nx, (δ.set i (some c)).set j (some d), S2)
      | _, _ => none)
    | some (.error c, S2) => some (.ex c, δ, S2)
    | none => none)
  | some (.error c, S1) => some (.ex c, δ, S1)
  | none => none) := rfl
@[simp] theorem ap_sUnp (tg : Tg) (f : SemE) (δ : En) (S : Sto) : sUnp tg f δ S = (match f δ S with
  | some (.ok (.d x), S') => (match tg.split x with
    | some ps => some (.nx, setD δ ps, S')
    | none => none)
  | some (.error c, S') => some (.ex c, δ, S')
  | _ => none) := rfl
@[simp] theorem ap_sApp (i : Nat) (f : SemE) (δ : En) (S : Sto) : sApp i f δ S = (match δ[i]? with
  | some (some (.own xs)) => (match f δ S with
    | some (.ok (.d y), S') => if xs.length < LIM then some (.nx, δ.set i (some (.own (xs ++ [y]))), S') else none
    | some (.error c, S') => some (.ex c, δ, S')
    | _ => none)
  | _ => none) := rfl
@[simp] theorem ap_sAppB (i : Nat) (f : SemE) (δ : En) (S : Sto) : sAppB i f δ S = (match δ[i]? with
  | some (some (.own xs)) => (match f (bor δ) S with
    | some (.ok (.d y), S') => if xs.length < LIM ∧ noLst y = true then some (.nx, δ.set i (some (.own (xs ++ [y]))), S') else none
    | some (.error c, S') => some (.ex c, δ, S')
    | _ => none)
  | _ => none) := rfl
@[simp] theorem ap_sExt (i : Nat) (f : SemE) (δ : En) (S : Sto) : sExt i f δ S = (match δ[i]? with
  | some (some (.own xs)) => (match f δ S with
    | some (.ok (.d (.list ys)), S') => if xs.length + ys.length ≤ LIM then some (.nx, δ.set i (some (.own (xs ++ ys))), S') else none
    | some (.error c, S') => some (.ex c, δ, S')
    | _ => none)
  | _ => none) := rfl
@[simp] theorem ap_sPop (i : Nat) (tg : Tg) (δ : En) (S : Sto) : sPop i tg δ S = (match δ[i]? with
  | some (some (.own xs)) => (match xs[xs.length - 1]? with
    | some y => (match tg.split y with
      | some ps => some (.nx, setD (δ.set i (some (.own xs.dropLast))) ps, S)
      | none => none)
    | none => none)
  | _ => none) := rfl
theorem ap_sFor (it : SemI) (tg : Tg) (body : SemS) (δ : En) (S : Sto) : sFor it tg body δ S = (match it δ S with
  | some (.ok items, S1) => forGo tg body items δ S1
  | some (.error c, S1) => some (.ex c, δ, S1)
  | none => none) := rfl
@[simp] theorem ap_sRaise (c : Nat) (δ : En) (S : Sto) : sRaise c δ S = (some (.ex c, δ, S)) := rfl
@[simp] theorem ap_fnSem (n : Nat) (body : SemS) (us : List U) (S : Sto) : fnSem n body us S = (match body (startE n us) S with
  | some (.nx, _, S') => some (.ok (.d .none), S')
  | some (.rt u, _, S') => some (.ok u, S')
  | some (.ex c, _, S') => some (.error c, S')
  | none => none) := rfl
@[simp] theorem ap_eCall (m : SemF) (np : Nat) (a : SemA) (δ : En) (S : Sto) : eCall m np a δ S = (bnd (a δ S) fun us S => if us.length = np then m us S else none) := rfl
@[simp] theorem ap_eLenTw (i : Nat) (δ : En) (S : Sto) : eLenTw i δ S = (match δ[i]?, S.tw with
  | some (some (.u .tw)), some n => some (.ok (.d (.int n)), S)
  | _, _ => none) := rfl
@[simp] theorem ap_sTwApp (i : Nat) (δ : En) (S : Sto) : sTwApp i δ S = (match δ[i]?, S.tw with
  | some (some (.u .tw)), some n => if n < LIM then some (.nx, δ, { S with tw := some (n + 1) }) else none
  | _, _ => none) := rfl
@[simp] theorem ap_sTown (i : Nat) (δ : En) (S : Sto) : sTown i δ S = (match S.tw with
  | none => some (.nx, δ.set i (some (.u .tw)), { S with tw := some 0 })
  | some _ => none) := rfl
@[simp] theorem ap_eLenSet (f : SemE) (δ : En) (S : Sto) : eLenSet f δ S = (bnd (f δ S) fun x S => match x with
  | .d (.list xs) => (match lenSetD xs with
    | some n => some (.ok (.d (.int n)), S)
    | none => none)
  | _ => none) := rfl
@[simp] theorem ap_eLRange (f : SemE) (δ : En) (S : Sto) : eLRange f δ S = (bnd (f δ S) fun x S => match x with
  | .d (.int n) => if n.natAbs ≤ 1000 then some (.ok (.d (.list (intsD 0 n.toNat))), S) else none
  | _ => none) := rfl
@[simp] theorem ap_eRev (f : SemE) (δ : En) (S : Sto) : eRev f δ S = (bnd (f δ S) fun x S => match x with
  | .d (.list xs) => some (.ok (.d (.list xs.reverse)), S)
  | _ => none) := rfl
@[simp] theorem ap_eCall0 (m : SemF) (δ : En) (S : Sto) : eCall0 m δ S = (m [] S) := rfl
@[simp] theorem ap_sAug (i : Nat) (f : SemE) (δ : En) (S : Sto) : sAug i f δ S = (match δ[i]? with
  | some (some (.u (.d (.int a)))) => (match f δ S with
    | some (.ok (.d (.int b)), S') => some (.nx, δ.set i (some (.u (.d (.int (a + b))))), S')
    | some (.error c, S') => some (.ex c, δ, S')
    | _ => none)
  | _ => none) := rfl
@[simp] theorem ap_sRem (i : Nat) (f : SemE) (δ : En) (S : Sto) : sRem i f δ S = (match δ[i]? with
  | some (some (.own xs)) => (match allI xs, f (bor δ) S with
    | some ns, some (.ok (.d (.int k)), S') => if k ∈ ns then some (.nx, δ.set i (some (.own ((ns.erase k).map .int))), S') else none
    | _, _ => none)
  | _ => none) := rfl
@[simp] theorem ap_eIdx (f h : SemE) (δ : En) (S : Sto) : eIdx f h δ S = (bnd (f δ S) fun x S => match x with
  | .d (.list xs) => bnd (h δ S) fun y S => (match y with
    | .d (.int k) => (match allI xs with
      | some ns => if k ∈ ns then some (.ok (.d (.int (ns.idxOf k))), S) else none
      | none => none)
    | _ => none)
  | _ => none) := rfl
@[simp] theorem ap_sExtA (i : Nat) (f : SemE) (δ : En) (S : Sto) : sExtA i f δ S = (match δ[i]? with
  | some (some (.own xs)) => (match f δ S with
    | some (.ok (.d (.list ys)), S') => if xs.length + ys.length ≤ LIM then some (.nx, δ.set i (some (.own (xs ++ ys))), S') else none
    | some (.ok (.d (.tuple ys)), S') => if xs.length + ys.length ≤ LIM then some (.nx, δ.set i (some (.own (xs ++ ys))), S') else none
    | some (.error c, S') => some (.ex c, δ, S')
    | _ => none)
  | _ => none) := rfl
@[simp] theorem ap_eIsX (i v : Nat) (δ : En) (S : Sto) : eIsX i v δ S = (match δ[v]? with
  | some (some (.u (.x c))) => some (.ok (.d (.bool (decide (min c 10 = min i 10)))), S)
  | _ => none) := rfl
@[simp] theorem ap_eIsVE (v : Nat) (δ : En) (S : Sto) : eIsVE v δ S = (match δ[v]? with
  | some (some (.u (.x c))) => some (.ok (.d (.bool true)), S)
  | _ => none) := rfl
@[simp] theorem ap_eM1 (op : List PyData → PyData → Option PyData) (f h : SemE) (δ : En) (S : Sto) : eM1 op f h δ S = (bnd (f δ S) fun x S => match x with
  | .d (.list xs) => bnd (h δ S) fun y S => (match y with
    | .d d => (match op xs d with
      | some z => some (.ok (.d z), S)
      | none => none)
    | _ => none)
  | _ => none) := rfl
@[simp] theorem ap_sTry (i : Nat) (body : SemS) (m : SemF) (δ : En) (S : Sto) : sTry i body m δ S = (match body δ S with
  | some (.ex c, δ1, S1) => if i < δ.length then (match m [.x c] S1 with
    | some (.ok (.d x), S2) => some (.rt (.d x), δ1, S2)
    | _ => none) else none
  | r => r) := rfl
@[simp] theorem ap_eCallL (ms : List SemF) (np : Nat) (fi : SemE) (a : SemA) (δ : En) (S : Sto) : eCallL ms np fi a δ S = (bnd (fi δ S) fun x S => match x with
  | .d (.int i) => (match atI ms i with
    | some m => bnd (a δ S) fun us S => if us.length = np then m us S else none
    | none => none)
  | _ => none) := rfl
@[simp] theorem ap_sSetC (i : Nat) (m : SemF) (np : Nat) (a : SemA) (δ : En) (S : Sto) : sSetC i m np a δ S = (match a (bor δ) S with
  | some (.ok us, S1) => if us.length = np ∧ us.all noLstU = true then (match m us S1 with
    | some (.ok u, S2) => some (.nx, δ.set i (some (.u u)), S2)
    | some (.error c, S2) => some (.ex c, δ, S2)
    | none => none) else none
  | some (.error c, S1) => some (.ex c, δ, S1)
  | none => none) := rfl
@[simp] theorem ap_eRevT (f : SemE) (δ : En) (S : Sto) : eRevT f δ S = (bnd (f δ S) fun x S => match x with
  | .d (.tuple xs) => some (.ok (.d (.tuple xs.reverse)), S)
  | _ => none) := rfl
end DL
/-! The typed layer: what the defs compute of threes, pairs and plans. -/
namespace PM
open PySem DL PySem.W
@[simp] theorem bnd_ok {α β : Type} (a : α) (S : Sto) (k : α → Sto → Rs β) : bnd (some (.ok a, S)) k = k a S := rfl
@[simp] theorem bnd_er {α β : Type} (c : Nat) (S : Sto) (k : α → Sto → Rs β) : bnd (some (.error c, S)) k = some (.error c, S) := rfl
@[simp] theorem sp_allD0 : allD [] = some [] := rfl
@[simp] theorem sp_allD1 (x : PyData) (r : List U) : allD (.d x :: r) = (match allD r with | some xs => some (x :: xs) | none => none) := rfl
@[simp] theorem sp_cD (p : PyData → PyData → Option Bool) (x y : PyData) : cD p (.d x) (.d y) = (match p x y with | some b => some (.d (.bool b)) | none => none) := rfl
@[simp] theorem sp_put1 (u : U) : put .dat u = some (.u u) := rfl
@[simp] theorem sp_put2 (ds : List PyData) : put .own (.d (.list ds)) = some (.own ds) := rfl
@[simp] theorem sp_oLen1 (xs : List PyData) : oLen [.d (.list xs)] = some (.d (.int xs.length)) := rfl
@[simp] theorem sp_oLen2 (xs : List PyData) : oLen [.d (.tuple xs)] = some (.d (.int xs.length)) := rfl
@[simp] theorem sp_oIx1 (xs : List PyData) (i : Int) : oIx (.d (.list xs)) (.d (.int i)) = (match L2.atI xs i with | some x => some (.d x) | none => none) := rfl
@[simp] theorem sp_oIx2 (xs : List PyData) (i : Int) : oIx (.d (.tuple xs)) (.d (.int i)) = (match L2.atI xs i with | some x => some (.d x) | none => none) := rfl
@[simp] theorem sp_isT1 (d : PyData) : isT .int d = d.isInt := rfl
@[simp] theorem sp_isT2 (d : PyData) : isT .bool d = d.isBool := rfl
@[simp] theorem sp_isT3 (d : PyData) : isT .tuple d = d.isTuple := rfl
@[simp] theorem sp_isT4 (d : PyData) : isT .str d = d.isStr := rfl
@[simp] theorem sp_startE (n : Nat) (us : List U) : startE n us = us.map (fun u => some (Cell.u u)) ++ List.replicate (n - us.length) none := rfl
@[simp] theorem sp_bor (δ : En) : bor δ = δ.map (Option.map borC) := rfl
@[simp] theorem sp_borC1 (xs : List PyData) : borC (.own xs) = .u (.d (.list xs)) := rfl
@[simp] theorem sp_borC2 (x : U) : borC (.u x) = .u x := rfl
@[simp] theorem sp_oAdd1 (a b : Int) : oAdd (.d (.int a)) (.d (.int b)) = some (.d (.int (a + b))) := rfl
@[simp] theorem sp_oAdd2 (a b : List PyData) : oAdd (.d (.list a)) (.d (.list b)) = if a.length + b.length ≤ LIM then some (.d (.list (a ++ b))) else none := rfl
@[simp] theorem sp_oAdd3 (a b : List PyData) : oAdd (.d (.tuple a)) (.d (.tuple b)) = if a.length + b.length ≤ LIM then some (.d (.tuple (a ++ b))) else none := rfl
@[simp] theorem sp_oSub (a b : Int) : oSub (.d (.int a)) (.d (.int b)) = some (.d (.int (a - b))) := rfl
@[simp] theorem sp_oMul1 (a b : Int) : oMul (.d (.int a)) (.d (.int b)) = if a.natAbs < 2 ^ 63 ∨ b.natAbs < 2 ^ 63 then some (.d (.int (a * b))) else none := rfl
@[simp] theorem sp_oMul2 (a : List PyData) (b : Int) : oMul (.d (.list a)) (.d (.int b)) = if 0 ≤ b ∧ b ≤ 1000 ∧ a.length ≤ 1000 then some (.d (.list (rep b.toNat a))) else none := rfl
@[simp] theorem sp_oMul3 (a : List PyData) (b : Int) : oMul (.d (.tuple a)) (.d (.int b)) = if 2 ≤ b ∧ b ≤ 1000 ∧ a.length ≤ 1000 ∧ 0 < a.length then some (.d (.tuple (rep b.toNat a))) else none := rfl
@[simp] theorem sp_oFdiv (a b : Int) : oFdiv (.d (.int a)) (.d (.int b)) = if b ≠ 0 ∧ b.natAbs < 1073741824 then some (.d (.int (a.fdiv b))) else none := rfl
@[simp] theorem sp_oMod (a b : Int) : oMod (.d (.int a)) (.d (.int b)) = if b ≠ 0 then some (.d (.int (a.fmod b))) else none := rfl
@[simp] theorem sp_oMin2 (i j : Int) : oMin2 [.d (.int i), .d (.int j)] = some (.d (.int (if j < i then j else i))) := rfl
@[simp] theorem sp_oMax2 (i j : Int) : oMax2 [.d (.int i), .d (.int j)] = some (.d (.int (if j > i then j else i))) := rfl
@[simp] theorem sp_oTuple1 (xs : List PyData) : oTuple [.d (.list xs)] = some (.d (.tuple xs)) := rfl
@[simp] theorem sp_oTuple2 (xs : List PyData) : oTuple [.d (.tuple xs)] = some (.d (.tuple xs)) := rfl
@[simp] theorem sp_oList1 (xs : List PyData) : oList [.d (.list xs)] = some (.d (.list xs)) := rfl
@[simp] theorem sp_oList2 (xs : List PyData) : oList [.d (.tuple xs)] = some (.d (.list xs)) := rfl
@[simp] theorem sp_wipe0 (δ : En) : wipeE δ [] = δ := rfl
@[simp] theorem sp_wipe1 (δ : En) (v : Nat) (vs : List Nat) : wipeE δ (v :: vs) = (wipeE δ vs).set v none := rfl
@[simp] theorem sp_frz (i : Nat) (δ : En) : frz i δ = (match δ[i]? with | some (some (.own xs)) => δ.set i (some (.u (.d (.list xs)))) | _ => δ) := rfl
/-- a comprehension without a stop, over encoded items -/
theorem lcGo_ok {α : Type} {tg : Tg} {test : SemT} {fe : SemE} {δ : En} {S : Sto} (e : α → PyData) (p : α → Bool) (v : α → PyData) : ∀ l : List α,
    (∀ x ∈ l, ∃ ps, tg.split (e x) = some ps ∧ test (setD δ ps) S = some (.ok (p x), S) ∧ (p x = true → fe (setD δ ps) S = some (.ok (.d (v x)), S))) → lcGo tg test fe δ (l.map e) S = some ((l.filter p).map v, S)
  | [], _ => rfl
  | x :: r, h => by
    obtain ⟨ps, e1, e2, e3⟩ := h x List.mem_cons_self
    have ih := lcGo_ok e p v r fun y hy => h y (List.mem_cons_of_mem _ hy)
    rw [List.map_cons]
    unfold lcGo
    rw [e1]
    simp only []
    rw [e2]
    cases hp : p x with
    | false =>
      simp only []
      rw [ih, List.filter_cons_of_neg (by rw [hp]; exact Bool.false_ne_true)]
    | true =>
      simp only []
      rw [e3 hp]
      simp only []
      rw [ih, List.filter_cons_of_pos hp]
      rfl
theorem lc_if {α : Type} {it : SemI} {vs : List Nat} {tg : Tg} {test : SemT} {fe : SemE} {δ : En} {S : Sto} (e : α → PyData) (l : List α) (p : α → Bool) (v : α → PyData) (hi : it δ S = some (.ok (l.map e), S)) (hl : l.length ≤ LIM)
    (h : ∀ x ∈ l, ∃ ps, tg.split (e x) = some ps ∧ test (setD (wipeE δ vs) ps) S = some (.ok (p x), S) ∧ (p x = true → fe (setD (wipeE δ vs) ps) S = some (.ok (.d (v x)), S))) : eLc it vs tg test fe δ S = some (.ok (.d (.list ((l.filter p).map v))), S) := by
  unfold eLc
  rw [hi, bnd_ok, if_pos (by rw [List.length_map]; exact hl), lcGo_ok e p v l h]
theorem lc_map {α : Type} {it : SemI} {vs : List Nat} {tg : Tg} {fe : SemE} {δ : En} {S : Sto} (e : α → PyData) (l : List α) (v : α → PyData) (hi : it δ S = some (.ok (l.map e), S)) (hl : l.length ≤ LIM)
    (h : ∀ x ∈ l, ∃ ps, tg.split (e x) = some ps ∧ fe (setD (wipeE δ vs) ps) S = some (.ok (.d (v x)), S)) : eLc it vs tg tTrue fe δ S = some (.ok (.d (.list (l.map v))), S) := by
  have := lc_if (it := it) (vs := vs) (tg := tg) (test := tTrue) (fe := fe) (δ := δ) (S := S) e l (fun _ => true) v hi hl fun x hx => by
    obtain ⟨ps, h1, h2⟩ := h x hx
    exact ⟨ps, h1, rfl, fun _ => h2⟩
  rw [this, List.filter_eq_self.mpr (fun _ _ => rfl)]
/-- a loop that gathers; γ: the other cells that it changes -/
theorem for_acc {α γ : Type} {tg : Tg} {body : SemS} {S : Sto} (E : List PyData → γ → En) (e : α → PyData) (f : α → List PyData) (B : Nat) : ∀ (l : List α) (acc : List PyData) (c : γ), acc.length + (l.flatMap f).length ≤ B →
    (∀ acc c x, x ∈ l → acc.length + (f x).length ≤ B → ∃ ps c', tg.split (e x) = some ps ∧ body (setD (E acc c) ps) S = some (.nx, E (acc ++ f x) c', S)) → ∃ c', forGo tg body (l.map e) (E acc c) S = some (.nx, E (acc ++ l.flatMap f) c', S)
  | [], acc, c, _, _ => ⟨c, by simp [forGo]⟩
  | x :: r, acc, c, hb, h => by
    rw [List.flatMap_cons, List.length_append] at hb
    obtain ⟨ps, c1, e1, e2⟩ := h acc c x List.mem_cons_self (by omega)
    obtain ⟨c2, e3⟩ := for_acc E e f B r (acc ++ f x) c1 (by rw [List.length_append]; omega) fun acc c y hy => h acc c y (List.mem_cons_of_mem _ hy)
    refine ⟨c2, ?_⟩
    rw [List.map_cons]
    unfold forGo
    rw [e1]
    simp only []
    rw [e2]
    simp only []
    rw [e3, List.flatMap_cons, List.append_assoc]
theorem seq_to {a b : SemS} {δ δ1 : En} {S S1 : Sto} {R : Option (Fl × En × Sto)} (h : a δ S = some (.nx, δ1, S1)) (k : b δ1 S1 = R) : sSeq a b δ S = R := (seq_nx h).trans k
theorem sFor_of {it : SemI} {tg : Tg} {body : SemS} {δ : En} {S S1 : Sto} {items : List PyData} {R : Option (Fl × En × Sto)} (hi : it δ S = some (.ok items, S1)) (h : forGo tg body items δ S1 = R) : sFor it tg body δ S = R := by
  unfold sFor
  rw [hi]
  exact h
theorem flatMap_map' {α β γ : Type} (g : α → β) (f : β → List γ) (l : List α) : (l.map g).flatMap f = l.flatMap fun x => f (g x) := by
  induction l with
  | nil => rfl
  | cons a l ih => simp [ih]
/-! ### threes and pairs -/
abbrev T3 := Nat × Nat × Nat
abbrev P2 := Nat × Nat
def eI (a : Nat) : PyData := .int (a : Int)
def eT (t : T3) : PyData := .tuple [.int (t.1 : Int), .int (t.2.1 : Int), .int (t.2.2 : Int)]
def eQ (p : P2) : PyData := .tuple [.int (p.1 : Int), .int (p.2 : Int)]
def eP (l : List T3) : PyData := .tuple (l.map eT)
def prs (t : T3) : List P2 := [(t.1, t.2.1), (t.1, t.2.2), (t.2.1, t.2.2)]
def met (l : List T3) : List P2 := l.flatMap prs
theorem ev_is_integer (x lo hi : Int) (S : Sto) : m_is_integer [.d (.int x), .d (.int lo), .d (.int hi)] S = some (.ok (.d (.bool (decide (lo ≤ x ∧ x ≤ hi)))), S) := by
  unfold m_is_integer
  by_cases h1 : lo ≤ x <;> by_cases h2 : x ≤ hi <;> simp [leP, h1, h2, PyData.isInt, PyData.isBool]
theorem ev_check_players (n : Nat) (h : 3 ≤ n ∧ n ≤ 9) (S : Sto) : m_check_players [.d (.int n)] S = some (.ok (.d .none), S) := by
  unfold m_check_players
  have h1 : (3 : Int) ≤ n := by omega
  have h2 : (n : Int) ≤ 9 := by omega
  simp [ev_is_integer, h1, h2]
theorem ev_pairs_of (t : T3) (S : Sto) : m_pairs_of [.d (eT t)] S = some (.ok (.d (.list ((prs t).map eQ))), S) := by
  obtain ⟨a, b, c⟩ := t
  rfl
/-- the inverse, for loops over encoded items -/
def dT : PyData → T3
  | .tuple [.int a, .int b, .int c] => (a.toNat, b.toNat, c.toNat)
  | _ => (0, 0, 0)
def dQ : PyData → P2
  | .tuple [.int a, .int b] => (a.toNat, b.toNat)
  | _ => (0, 0)
def dI : PyData → Nat
  | .int a => a.toNat
  | _ => 0
@[simp] theorem dT_eT (t : T3) : dT (eT t) = t := by obtain ⟨a, b, c⟩ := t; rfl
@[simp] theorem dQ_eQ (t : P2) : dQ (eQ t) = t := by obtain ⟨a, b⟩ := t; rfl
@[simp] theorem dI_eI (t : Nat) : dI (eI t) = t := rfl
theorem met_len (l : List T3) : (met l).length = 3 * l.length := by
  induction l with
  | nil => rfl
  | cons t l ih => simp [met, prs] at *; omega
theorem ev_pairs_met (l : List T3) (h : l.length ≤ 1000) (S : Sto) : m_pairs_met [.d (eP l)] S = some (.ok (.d (.list ((met l).map eQ))), S) := by
  have e2 : l.flatMap (fun t => (prs t).map eQ) = (met l).map eQ := by rw [met, List.map_flatMap]
  obtain ⟨c', e⟩ := for_acc (tg := .one 2) (body := sSeq (sExtA 1 (eCall m_pairs_of 1 (aCons (eVar 2) aNil))) sNil) (S := S) (fun acc (c : Option Cell) => [some (.u (.d (eP l))), some (.own acc), c]) eT (fun t => (prs t).map eQ) LIM l [] none
    (by rw [e2, List.length_map, met_len]; simp [LIM]; omega) (fun acc c t ht hb => by
      refine ⟨[(2, eT t)], some (.u (.d (eT t))), rfl, ?_⟩
      simp at hb
      simp [setD, ev_pairs_of, hb])
  rw [e2] at e
  unfold m_pairs_met
  refine fn_rt (δ1 := [some (.u (.d (eP l))), some (.own ([] ++ (met l).map eQ)), c']) ?_
  refine seq_to (δ1 := [some (.u (.d (eP l))), some (.own []), none]) (S1 := S) rfl (seq_to (sFor_of (items := l.map eT) rfl e) ?_)
  cases c' <;> simp
/-! ### comparisons -/
theorem eqv_int (a b : Int) : PyData.eqv (.int a) (.int b) = decide (a = b) := by simp [PyData.eqv]; rfl
theorem eqv_tup (xs ys : List PyData) : PyData.eqv (.tuple xs) (.tuple ys) = PyData.eqvAll xs ys := by simp [PyData.eqv]
theorem eqv_list (xs ys : List PyData) : PyData.eqv (.list xs) (.list ys) = PyData.eqvAll xs ys := by simp [PyData.eqv]
/-- an encoding under which == is equality -/
def EqE {α : Type} [DecidableEq α] (e : α → PyData) : Prop := ∀ a b, PyData.eqv (e a) (e b) = decide (a = b)
theorem eqe_int : EqE (fun a : Int => PyData.int a) := eqv_int
theorem eqe_I : EqE eI := fun a b => by
  unfold eI
  rw [eqv_int]
  exact decide_eq_decide.mpr (by omega)
theorem eqe_Q : EqE eQ := fun a b => by
  obtain ⟨a1, a2⟩ := a
  obtain ⟨b1, b2⟩ := b
  unfold eQ
  rw [eqv_tup]
  simp only [PyData.eqvAll, eqv_int, Bool.and_true]
  rw [← Bool.decide_and]
  exact decide_eq_decide.mpr (by simp only [Prod.mk.injEq]; omega)
theorem eqe_T : EqE eT := fun a b => by
  obtain ⟨a1, a2, a3⟩ := a
  obtain ⟨b1, b2, b3⟩ := b
  unfold eT
  rw [eqv_tup]
  simp only [PyData.eqvAll, eqv_int, Bool.and_true]
  rw [← Bool.decide_and, ← Bool.decide_and]
  exact decide_eq_decide.mpr (by simp only [Prod.mk.injEq]; omega)
theorem eqvAll_map {α : Type} [DecidableEq α] {e : α → PyData} (h : EqE e) : ∀ l m : List α, PyData.eqvAll (l.map e) (m.map e) = decide (l = m)
  | [], [] => rfl
  | [], _ :: _ => rfl
  | _ :: _, [] => rfl
  | a :: l, b :: m => by
    simp only [List.map_cons, PyData.eqvAll]
    rw [h a b, eqvAll_map h l m, ← Bool.decide_and]
    exact decide_eq_decide.mpr (by simp only [List.cons.injEq])
theorem eqe_tup {α : Type} [DecidableEq α] {e : α → PyData} (h : EqE e) : EqE (fun l : List α => PyData.tuple (l.map e)) := fun a b => by rw [eqv_tup]; exact eqvAll_map h a b
theorem eqe_list {α : Type} [DecidableEq α] {e : α → PyData} (h : EqE e) : EqE (fun l : List α => PyData.list (l.map e)) := fun a b => by rw [eqv_list]; exact eqvAll_map h a b
theorem eqe_P : EqE eP := eqe_tup eqe_T
theorem any_map {α : Type} [DecidableEq α] {e : α → PyData} (h : EqE e) (l : List α) (a : α) : ((l.map e).any fun y => PyData.eqv y (e a)) = decide (a ∈ l) := by
  induction l with
  | nil => rfl
  | cons b l ih =>
    rw [List.map_cons, List.any_cons, ih, h b a, ← Bool.decide_or]
    exact decide_eq_decide.mpr (by rw [List.mem_cons, eq_comm])
theorem dok_T (t : T3) : dOk (eT t) = true := rfl
theorem dok_Q (p : P2) : dOk (eQ p) = true := rfl
theorem dok_I (a : Int) : dOk (.int a) = true := rfl
theorem dok_nil : dOk (.list []) = true := rfl
theorem inP_l (d : PyData) (xs : List PyData) : inP d (.list xs) = if dOk d = true then some (xs.any fun y => PyData.eqv y d) else none := by cases d <;> rfl
theorem inP_t (d : PyData) (xs : List PyData) : inP d (.tuple xs) = if dOk d = true then some (xs.any fun y => PyData.eqv y d) else none := by cases d <;> rfl
theorem notInP_l (d : PyData) (xs : List PyData) : notInP d (.list xs) = if dOk d = true then some (!xs.any fun y => PyData.eqv y d) else none := by cases d <;> rfl
theorem notInP_t (d : PyData) (xs : List PyData) : notInP d (.tuple xs) = if dOk d = true then some (!xs.any fun y => PyData.eqv y d) else none := by cases d <;> rfl
theorem inP_list {α : Type} [DecidableEq α] {e : α → PyData} (h : EqE e) (l : List α) (a : α) (hd : dOk (e a) = true) : inP (e a) (.list (l.map e)) = some (decide (a ∈ l)) := by
  rw [inP_l, if_pos hd, any_map h]
theorem notInP_list {α : Type} [DecidableEq α] {e : α → PyData} (h : EqE e) (l : List α) (a : α) (hd : dOk (e a) = true) : notInP (e a) (.list (l.map e)) = some (!decide (a ∈ l)) := by
  rw [notInP_l, if_pos hd, any_map h]
theorem inP_tup {α : Type} [DecidableEq α] {e : α → PyData} (h : EqE e) (l : List α) (a : α) (hd : dOk (e a) = true) : inP (e a) (.tuple (l.map e)) = some (decide (a ∈ l)) := by
  rw [inP_t, if_pos hd, any_map h]
theorem notInP_tup {α : Type} [DecidableEq α] {e : α → PyData} (h : EqE e) (l : List α) (a : α) (hd : dOk (e a) = true) : notInP (e a) (.tuple (l.map e)) = some (!decide (a ∈ l)) := by
  rw [notInP_t, if_pos hd, any_map h]
/-! order -/
def lexB {α : Type} [DecidableEq α] (lt : α → α → Bool) : List α → List α → Bool
  | [], [] => false
  | [], _ :: _ => true
  | _ :: _, [] => false
  | a :: l, b :: m => if a = b then lexB lt l m else lt a b
theorem rowLt_map {α : Type} [DecidableEq α] {e : α → PyData} {lt : α → α → Bool} (he : EqE e) (ha : ∀ a b, alike (e a) (e b) = true) (hl : ∀ a b, PySem.W.dataLt (e a) (e b) = lt a b) : ∀ l m : List α, PySem.W.rowLt (l.map e) (m.map e) = lexB lt l m
  | [], [] => PyProof.Rows.lex_irrefl _
  | [], b :: m => by
    unfold PySem.W.rowLt
    rw [List.map_cons, PySem.W.toks_all_cons]
    rfl
  | a :: l, [] => by
    unfold PySem.W.rowLt
    rw [List.map_cons, PySem.W.toks_all_cons]
    rfl
  | a :: l, b :: m => by
    have ih := rowLt_map he ha hl l m
    unfold PySem.W.rowLt at ih ⊢
    rw [List.map_cons, List.map_cons, PySem.W.dataLt_cons (ha a b), ih, he a b, hl a b]
    show _ = if a = b then lexB lt l m else lt a b
    by_cases h : a = b <;> simp [h]
def ltT (s t : T3) : Bool := decide (s.1 < t.1 ∨ (s.1 = t.1 ∧ (s.2.1 < t.2.1 ∨ (s.2.1 = t.2.1 ∧ s.2.2 < t.2.2))))
def ltI (a b : Int) : Bool := decide (a < b)
theorem dataLt_T (s t : T3) : PySem.W.dataLt (eT s) (eT t) = ltT s t := by
  obtain ⟨a1, a2, a3⟩ := s
  obtain ⟨b1, b2, b3⟩ := t
  have h := rowLt_map (e := PyData.int) (lt := ltI) eqe_int (fun a b => by simp [alike]) PySem.W.dataLt_int [(a1 : Int), a2, a3] [(b1 : Int), b2, b3]
  unfold eT
  rw [PySem.W.dataLt_tuple]
  refine h.trans ?_
  simp only [lexB, ltI, ltT]
  by_cases h1 : a1 = b1 <;> by_cases h2 : a2 = b2 <;> by_cases h3 : a3 = b3 <;> simp [h1, h2, h3] <;> omega
theorem alike_T (s t : T3) : alike (eT s) (eT t) = true := by simp [eT, alike, alikeAll]
def ltP' (l m : List T3) : Bool := lexB ltT l m
theorem dataLt_P (l m : List T3) : PySem.W.dataLt (eP l) (eP m) = ltP' l m := by
  unfold eP
  rw [PySem.W.dataLt_tuple]
  exact rowLt_map eqe_T alike_T dataLt_T l m
theorem ltP_T (s t : T3) : ltP (eT s) (eT t) = some (ltT s t) := by
  unfold ltP
  simp only [eT]
  rw [if_pos (by simp [alike, alikeAll]; exact ⟨rfl, rfl⟩)]
  exact congrArg some (dataLt_T s t)
/-! ### what stands -/
def okT (n : Nat) (t : T3) : Bool := decide (t.1 < t.2.1 ∧ t.2.1 < t.2.2 ∧ t.2.2 < n)
def adj : List T3 → Bool
  | [] => true
  | [_] => true
  | a :: b :: l => ltT a b && adj (b :: l)
def standsB (n : Nat) (l : List T3) : Bool := l.all (okT n) && (decide (met l).Nodup && adj l)
theorem int_lt_of (a n : Nat) : ((0 : Int) ≤ a ∧ (a : Int) ≤ n - 1) ↔ a < n := by omega
theorem ev_fits (n : Nat) (t : T3) (S : Sto) : m_fits [.d (.int n), .d (eT t)] S = some (.ok (.d (.bool (okT n t))), S) := by
  obtain ⟨a, b, c⟩ := t
  have hn : neP (.int 3) (.int 3) = some false := rfl
  have e : (decide (a < n) && (decide (b < n) && decide (c < n)) && (decide (a < b) && decide (b < c))) = okT n (a, b, c) := by
    unfold okT
    simp only [← Bool.decide_and]
    exact decide_eq_decide.mpr (by omega)
  have el : eLc (itSeq (eVar 1)) [2] (.one 2) tTrue (eCall m_is_integer 3 (aCons (eVar 2) (aCons (eC (.int 0)) (aCons (eOp oSub (eVar 0) (eC (.int 1))) aNil)))) [some (.u (.d (.int n))), some (.u (.d (eT (a, b, c)))), none] S = some (.ok (.d (.list [.bool (decide (a < n)), .bool (decide (b < n)), .bool (decide (c < n))])), S) := by
    simp [eT, eLc, lcGo, Tg.split, setD, ev_is_integer, int_lt_of, LIM]
    omega
  rw [← e]
  unfold m_fits
  generalize ha : decide (a < n) = pa at el ⊢
  generalize hb : decide (b < n) = pb at el ⊢
  generalize hc : decide (c < n) = pc at el ⊢
  have e1 : sIf (tOrS (tNotS (tOf (eIsT .tuple (eVar 1)))) (tOrS (tOf (eOp (cD neP) (eBc oLen (aCons (eVar 1) aNil)) (eC (.int 3)))) (tNotS (tOf (eBc oAll (aCons (eLc (itSeq (eVar 1)) [2] (.one 2) tTrue (eCall m_is_integer 3 (aCons (eVar 2) (aCons (eC (.int 0)) (aCons (eOp oSub (eVar 0) (eC (.int 1))) aNil))))) aNil)))))) (sSeq (sRet (eC (.bool false))) sNil) sNil (startE 3 [.d (.int n), .d (eT (a, b, c))]) S = if (pa && (pb && pc)) = true then some (.nx, startE 3 [.d (.int n), .d (eT (a, b, c))], S) else some (.rt (.d (.bool false)), startE 3 [.d (.int n), .d (eT (a, b, c))], S) := by
    have hs : bor (startE 3 [.d (.int n), .d (eT (a, b, c))]) = [some (.u (.d (.int n))), some (.u (.d (eT (a, b, c)))), none] := rfl
    have h2 : startE 3 [.d (.int n), .d (eT (a, b, c))] = [some (.u (.d (.int n))), some (.u (.d (eT (a, b, c)))), none] := rfl
    rw [ap_sIf, hs]
    simp only [eT] at el ⊢
    simp [el, PyData.isTuple, hn, oAll, allB]
    cases pa <;> cases pb <;> cases pc <;> simp
  cases hp : (pa && (pb && pc)) with
  | false =>
    rw [hp] at e1
    exact fn_rt (seq_rt e1)
  | true =>
    rw [hp] at e1
    refine fn_rt (δ1 := startE 3 [.d (.int n), .d (eT (a, b, c))]) (seq_to e1 ?_)
    by_cases h4 : a < b <;> by_cases h5 : b < c <;> simp [eT, h4, h5, L2.atI, L2.ixN, ltP]
theorem adj_all : ∀ l : List T3, ((l.zip (l.drop 1)).all fun p => ltT p.1 p.2) = adj l
  | [] => rfl
  | [_] => rfl
  | a :: b :: l => by
    have ih := adj_all (b :: l)
    simp only [List.drop_succ_cons, List.drop_zero, List.zip_cons_cons, List.all_cons, adj] at ih ⊢
    rw [ih]
theorem allB_map {α : Type} (f : α → Bool) : ∀ l : List α, allB (l.map fun x => PyData.bool (f x)) = some (l.map f)
  | [] => rfl
  | x :: l => by
    simp only [List.map_cons, allB, allB_map f l]
theorem oAll_map {α : Type} (f : α → Bool) (l : List α) : oAll [.d (.list (l.map fun x => PyData.bool (f x)))] = some (.d (.bool (l.all f))) := by
  simp only [oAll, allB_map]
  simp [List.all_map]
theorem tupsOf_Q : ∀ l : List P2, tupsOf (l.map eQ) = some (l.map fun p => [(p.1 : Int), (p.2 : Int)])
  | [] => rfl
  | p :: l => by
    simp only [List.map_cons, tupsOf, tupsOf_Q l, eQ]
    rfl
theorem nodup_Q (l : List P2) : (l.map fun p => [(p.1 : Int), (p.2 : Int)]).Nodup ↔ l.Nodup := by
  unfold List.Nodup
  rw [List.pairwise_map]
  refine ⟨fun h => h.imp fun {a b} h e => h (by rw [e]), fun h => h.imp fun {a b} h e => h ?_⟩
  obtain ⟨a1, a2⟩ := a
  obtain ⟨b1, b2⟩ := b
  simp only [List.cons.injEq, and_true] at e
  simp only [Prod.mk.injEq]
  omega
theorem lenSet_Q (l : List P2) (h : l.length < 64) : ∃ k : Nat, lenSetD (l.map eQ) = some k ∧ (k = l.length ↔ l.Nodup) := by
  refine ⟨ndist (l.map fun p => [(p.1 : Int), (p.2 : Int)]), ?_, ?_⟩
  · unfold lenSetD
    rw [if_pos (by rw [List.length_map]; exact h), tupsOf_Q]
  · rw [← nodup_Q, ← ndist_nodup, List.length_map]
theorem pairD_map {α β : Type} (e : α → PyData) (f : β → PyData) (l : List α) (m : List β) : pairD (l.map e) (m.map f) = (l.zip m).map fun p => .tuple [e p.1, f p.2] := by
  unfold pairD
  rw [List.zip_map]
  simp
theorem cut1 (l : List T3) : cutD (l.map eT) (some 1) none = (l.drop 1).map eT := by
  unfold cutD HT.sIx
  simp only [List.length_map]
  cases l with
  | nil => rfl
  | cons a l =>
    simp
    rw [List.take_of_length_le (by simp)]
theorem ev_stands (n : Nat) (l : List T3) (hl : l.length ≤ 20) (S : Sto) : m_stands [.d (.int n), .d (eP l)] S = some (.ok (.d (.bool (standsB n l))), S) := by
  have el : eLc (itSeq (eVar 1)) [2] (.one 2) tTrue (eCall m_fits 2 (aCons (eVar 0) (aCons (eVar 2) aNil))) [some (.u (.d (.int n))), some (.u (.d (eP l))), none, none, none, none] S = some (.ok (.d (.list (l.map fun t => .bool (okT n t)))), S) :=
    lc_map eT l (fun t => .bool (okT n t)) rfl (by simp [LIM]; omega) (fun t ht => ⟨[(2, eT t)], rfl, by simp [setD, ev_fits]⟩)
  have e1 : sIf (tOrS (tNotS (tOf (eIsT .tuple (eVar 1)))) (tNotS (tOf (eBc oAll (aCons (eLc (itSeq (eVar 1)) [2] (.one 2) tTrue (eCall m_fits 2 (aCons (eVar 0) (aCons (eVar 2) aNil)))) aNil))))) (sSeq (sRet (eC (.bool false))) sNil) sNil (startE 6 [.d (.int n), .d (eP l)]) S = if l.all (okT n) = true then some (.nx, startE 6 [.d (.int n), .d (eP l)], S) else some (.rt (.d (.bool false)), startE 6 [.d (.int n), .d (eP l)], S) := by
    have hs : bor (startE 6 [.d (.int n), .d (eP l)]) = [some (.u (.d (.int n))), some (.u (.d (eP l))), none, none, none, none] := rfl
    rw [ap_sIf, hs]
    have ht : isT .tuple (eP l) = true := rfl
    simp [el, oAll_map, ht, -sp_isT3]
    cases l.all (okT n) <;> simp
  unfold standsB
  unfold m_stands
  cases hp : l.all (okT n) with
  | false =>
    rw [hp] at e1
    exact fn_rt (seq_rt e1)
  | true =>
    rw [hp] at e1
    refine fn_rt (δ1 := [some (.u (.d (.int n))), some (.u (.d (eP l))), none, some (.u (.d (.list ((met l).map eQ)))), none, none]) (seq_to e1 (seq_to (δ1 := [some (.u (.d (.int n))), some (.u (.d (eP l))), none, some (.u (.d (.list ((met l).map eQ)))), none, none]) (S1 := S) ?_ ?_))
    · simp [ev_pairs_met l (by omega)]
    · obtain ⟨k, hk, hki⟩ := lenSet_Q (met l) (by rw [met_len]; omega)
      have hc := cut1 l
      have ez : eLc (itZip (aCons (eVar 1) (aCons (eSl (eVar 1) (oSome (eC (.int 1))) oNo) aNil))) [4, 5] (.tup [4, 5]) tTrue (eOp (cD ltP) (eVar 4) (eVar 5)) [some (.u (.d (.int n))), some (.u (.d (eP l))), none, some (.u (.d (.list ((met l).map eQ)))), none, none] S = some (.ok (.d (.list ((l.zip (l.drop 1)).map fun p => .bool (ltT p.1 p.2)))), S) :=
        lc_map (fun p : T3 × T3 => .tuple [eT p.1, eT p.2]) (l.zip (l.drop 1)) (fun p => .bool (ltT p.1 p.2)) (by
          rw [← pairD_map, ← hc]
          simp [eP]) (by simp [LIM]; omega) (fun p hp => ⟨[(4, eT p.1), (5, eT p.2)], rfl, by simp [setD, ltP_T]⟩)
      have eq : eqP (.int k) (.int (met l).length) = some (decide ((met l).Nodup)) := by
        unfold eqP
        rw [if_pos (by rfl), eqv_int]
        exact congrArg some (decide_eq_decide.mpr (by rw [← hki]; omega))
      simp only [List.drop_one] at ez
      have ha := adj_all l
      simp only [List.drop_one] at ha
      simp [hk, eq, ez, oAll_map, ha]
      cases decide (met l).Nodup <;> simp
end PM
/-! The typed layer: pairs left, open threes, partners. -/
namespace PM
open PySem DL PySem.W
theorem ev_check_plan (n : Nat) (hn : 3 ≤ n ∧ n ≤ 9) (l : List T3) (hl : l.length ≤ 20) (S : Sto) : m_check_plan [.d (.int n), .d (eP l)] S = if standsB n l = true then some (.ok (.d .none), S) else some (.error 2, S) := by
  unfold m_check_plan
  have h := ev_check_players n hn S
  cases hs : standsB n l <;> simp [h, ev_stands n l hl, hs]
/-- range(m, n), and range(n) -/
theorem ints_nat (m k : Nat) : intsD (m : Int) k = ((List.range k).map fun i => m + i).map eI := by
  unfold intsD eI
  rw [List.map_map]
  refine List.map_congr_left fun i _ => ?_
  simp
def upTo (m n : Nat) : List Nat := (List.range (n - m)).map fun i => m + i
theorem ints_upTo (m n : Nat) : intsD (m : Int) ((n : Int) - m).toNat = (upTo m n).map eI := by
  rw [ints_nat]
  unfold upTo
  rw [show ((n : Int) - m).toNat = n - m by omega]
theorem ints_range (n : Nat) : intsD 0 (n : Int).toNat = (List.range n).map eI := by
  have := ints_nat 0 n
  simp at this
  simpa using this
theorem mem_upTo {m n k : Nat} : k ∈ upTo m n ↔ m ≤ k ∧ k < n := by
  unfold upTo
  rw [List.mem_map]
  constructor
  · rintro ⟨i, hi, rfl⟩
    have := List.mem_range.mp hi
    omega
  · intro h
    exact ⟨k - m, List.mem_range.mpr (by omega), by omega⟩
def allPairs (n : Nat) : List P2 := (List.range n).flatMap fun a => (upTo (a + 1) n).map fun b => (a, b)
theorem flat_len {α β : Type} (f : α → List β) (k : Nat) : ∀ l : List α, (∀ x ∈ l, (f x).length ≤ k) → (l.flatMap f).length ≤ k * l.length
  | [], _ => Nat.zero_le _
  | x :: l, h => by
    rw [List.flatMap_cons, List.length_append, List.length_cons, Nat.mul_succ]
    have := flat_len f k l fun y hy => h y (List.mem_cons_of_mem _ hy)
    have := h x List.mem_cons_self
    omega
theorem upTo_len (m n : Nat) : (upTo m n).length = n - m := by simp [upTo]
theorem ev_all_pairs (n : Nat) (hn : n ≤ 100) (S : Sto) : m_all_pairs [.d (.int n)] S = some (.ok (.d (.list ((allPairs n).map eQ))), S) := by
  have e2 : (List.range n).flatMap (fun a => (upTo (a + 1) n).map fun b => eQ (a, b)) = (allPairs n).map eQ := by
    rw [allPairs, List.map_flatMap]
    simp [Function.comp_def]
  have hlen : ((List.range n).flatMap (fun a => (upTo (a + 1) n).map fun b => eQ (a, b))).length ≤ 100 * n := by
    have := flat_len (fun a => (upTo (a + 1) n).map fun b => eQ (a, b)) 100 (List.range n) (fun a ha => by rw [List.length_map, upTo_len]; omega)
    simpa using this
  obtain ⟨c', e⟩ := for_acc (tg := .one 2) (body := sSeq (sExtA 1 (eLc (itR2 (aCons (eOp oAdd (eVar 2) (eC (.int 1))) (aCons (eVar 0) aNil))) [3] (.one 3) tTrue (eTup (aCons (eVar 2) (aCons (eVar 3) aNil))))) sNil) (S := S) (fun acc (c : Option Cell) => [some (.u (.d (.int n))), some (.own acc), c, none]) eI (fun a => (upTo (a + 1) n).map fun b => eQ (a, b)) LIM (List.range n) [] none
    (by simp only [List.length_nil, Nat.zero_add]; exact Nat.le_trans hlen (by simp [LIM]; omega)) (fun acc c a ha hb => by
      have han := List.mem_range.mp ha
      refine ⟨[(2, eI a)], some (.u (.d (eI a))), rfl, ?_⟩
      have el : eLc (itR2 (aCons (eOp oAdd (eVar 2) (eC (.int 1))) (aCons (eVar 0) aNil))) [3] (.one 3) tTrue (eTup (aCons (eVar 2) (aCons (eVar 3) aNil))) [some (.u (.d (.int n))), some (.own acc), some (.u (.d (eI a))), none] S = some (.ok (.d (.list ((upTo (a + 1) n).map fun b => eQ (a, b)))), S) := by
        refine lc_map eI (upTo (a + 1) n) (fun b => eQ (a, b)) ?_ (by rw [upTo_len]; simp [LIM]; omega) (fun b hb => ⟨[(3, eI b)], rfl, ?_⟩)
        · have := ints_upTo (a + 1) n
          simp at this
          simp [eI, this]
          omega
        · simp [setD, eI, eQ]
      simp at hb
      simp [setD, el, hb])
  rw [e2] at e
  unfold m_all_pairs
  refine fn_rt (δ1 := [some (.u (.d (.int n))), some (.own ([] ++ (allPairs n).map eQ)), c', none]) ?_
  refine seq_to (δ1 := [some (.u (.d (.int n))), some (.own []), none, none]) (S1 := S) rfl (seq_to (sFor_of (items := (List.range n).map eI) ?_ e) ?_)
  · have := ints_range n
    simp at this
    simp [this]
    omega
  · cases c' <;> simp
def leftOf (n : Nat) (l : List T3) : List P2 := (allPairs n).filter fun p => !decide (p ∈ met l)
theorem allPairs_len (n : Nat) (hn : n ≤ 100) : (allPairs n).length ≤ 10000 := by
  have := flat_len (fun a => (upTo (a + 1) n).map fun b => (a, b)) 100 (List.range n) (fun a ha => by rw [List.length_map, upTo_len]; omega)
  unfold allPairs
  rw [List.length_range] at this
  omega
theorem ev_left_of (n : Nat) (hn : n ≤ 100) (l : List T3) (hl : l.length ≤ 1000) (S : Sto) : m_left_of [.d (.int n), .d (eP l)] S = some (.ok (.d (.list ((leftOf n l).map eQ))), S) := by
  unfold m_left_of
  refine fn_rt (δ1 := [some (.u (.d (.int n))), some (.u (.d (eP l))), some (.u (.d (.list ((met l).map eQ)))), none]) (seq_to (δ1 := [some (.u (.d (.int n))), some (.u (.d (eP l))), some (.u (.d (.list ((met l).map eQ)))), none]) (S1 := S) ?_ (seq_rt ?_))
  · simp [ev_pairs_met l hl]
  · have el : eLc (itSeq (eCall m_all_pairs 1 (aCons (eVar 0) aNil))) [3] (.one 3) (tOf (eOp (cD notInP) (eVar 3) (eVar 2))) (eVar 3) [some (.u (.d (.int n))), some (.u (.d (eP l))), some (.u (.d (.list ((met l).map eQ)))), none] S = some (.ok (.d (.list ((leftOf n l).map eQ))), S) := by
      refine lc_if eQ (allPairs n) (fun p => !decide (p ∈ met l)) eQ ?_ (Nat.le_trans (allPairs_len n hn) (by decide)) (fun p hp => ⟨[(3, eQ p)], rfl, ?_, fun _ => ?_⟩)
      · simp [ev_all_pairs n hn]
      · simp [setD, notInP_list eqe_Q (met l) p (dok_Q p)]
      · simp [setD]
    simp [el]
theorem eq_nil {α : Type} (e : α → PyData) (l : List α) : eqP (.list (l.map e)) (.list []) = some (decide (l = [])) := by
  unfold eqP
  rw [if_pos (by rw [dok_nil, Bool.or_true])]
  cases l <;> rfl
theorem ne_nil {α : Type} (e : α → PyData) (l : List α) : neP (.list (l.map e)) (.list []) = some (!decide (l = [])) := by
  unfold neP
  rw [if_pos (by rw [dok_nil, Bool.or_true])]
  cases l <;> rfl
theorem ev_is_full (n : Nat) (hn : 3 ≤ n ∧ n ≤ 9) (l : List T3) (hl : l.length ≤ 20) (hs : standsB n l = true) (S : Sto) : m_is_full [.d (.int n), .d (eP l)] S = some (.ok (.d (.bool (decide (leftOf n l = [])))), S) := by
  unfold m_is_full
  simp [ev_check_plan n hn l hl, hs, ev_left_of n (by omega) l (by omega), eq_nil]
def openL (n : Nat) (l : List T3) : List T3 := (allPairs n).flatMap fun p => ((upTo (p.2 + 1) n).map fun c => (p.1, p.2, c)).filter fun t => (prs t).all fun q => decide (q ∈ leftOf n l)
theorem flat_if {α β : Type} (p : β → Bool) (g : α → β) (e : β → PyData) : ∀ l : List α, (l.flatMap fun x => if p (g x) = true then [e (g x)] else []) = ((l.map g).filter p).map e
  | [] => rfl
  | x :: l => by
    rw [List.flatMap_cons, flat_if p g e l, List.map_cons]
    cases h : p (g x) <;> simp [h]
theorem allPairs_len9 (n : Nat) (hn : n ≤ 9) : (allPairs n).length ≤ 81 := by
  have := flat_len (fun a => (upTo (a + 1) n).map fun b => (a, b)) 9 (List.range n) (fun a ha => by rw [List.length_map, upTo_len]; omega)
  unfold allPairs
  rw [List.length_range] at this
  omega
theorem ev_open_list (n : Nat) (hn : n ≤ 9) (l : List T3) (hl : l.length ≤ 1000) (S : Sto) : m_open_list [.d (.int n), .d (eP l)] S = some (.ok (.d (.list ((openL n l).map eT))), S) := by
  generalize hL : leftOf n l = L
  let E : List PyData → (Option Cell × Option Cell × Option Cell) → En := fun acc c => [some (.u (.d (.int n))), some (.u (.d (eP l))), some (.u (.d (.list (L.map eQ)))), some (.own acc), c.1, c.2.1, c.2.2, none]
  have hpr : ∀ (t : T3) (acc : List PyData), tOf (eBc oAll (aCons (eLc (itSeq (eCall m_pairs_of 1 (aCons (eTup (aCons (eVar 4) (aCons (eVar 5) (aCons (eVar 6) aNil)))) aNil))) [7] (.one 7) tTrue (eOp (cD inP) (eVar 7) (eVar 2))) aNil)) (bor (E acc (some (.u (.d (eI t.1))), some (.u (.d (eI t.2.1))), some (.u (.d (eI t.2.2)))))) S = some (.ok ((prs t).all fun q => decide (q ∈ L)), S) := by
    intro t acc
    have el : eLc (itSeq (eCall m_pairs_of 1 (aCons (eTup (aCons (eVar 4) (aCons (eVar 5) (aCons (eVar 6) aNil)))) aNil))) [7] (.one 7) tTrue (eOp (cD inP) (eVar 7) (eVar 2)) (bor (E acc (some (.u (.d (eI t.1))), some (.u (.d (eI t.2.1))), some (.u (.d (eI t.2.2)))))) S = some (.ok (.d (.list ((prs t).map fun q => .bool (decide (q ∈ L))))), S) := by
      refine lc_map eQ (prs t) (fun q => .bool (decide (q ∈ L))) ?_ (by simp [prs, LIM]) (fun q hq => ⟨[(7, eQ q)], rfl, ?_⟩)
      · have := ev_pairs_of t S
        unfold eT at this
        simp [E, eI, this]
      · simp [E, setD, inP_list eqe_Q L q (dok_Q q)]
    simp [el, oAll_map, -sp_bor]
  have inner : ∀ (a b : Nat), b < n → ∀ (acc : List PyData) (c : Option Cell × Option Cell × Option Cell), acc.length + 100 ≤ LIM → ∃ c', sSeq (sFor (itR2 (aCons (eOp oAdd (eVar 5) (eC (.int 1))) (aCons (eVar 0) aNil))) (.one 6) (sSeq (sIf (tOf (eBc oAll (aCons (eLc (itSeq (eCall m_pairs_of 1 (aCons (eTup (aCons (eVar 4) (aCons (eVar 5) (aCons (eVar 6) aNil)))) aNil))) [7] (.one 7) tTrue (eOp (cD inP) (eVar 7) (eVar 2))) aNil))) (sSeq (sApp 3 (eTup (aCons (eVar 4) (aCons (eVar 5) (aCons (eVar 6) aNil))))) sNil) sNil) sNil)) sNil (E acc (some (.u (.d (eI a))), some (.u (.d (eI b))), c.2.2)) S = some (.nx, E (acc ++ (((upTo (b + 1) n).map fun c => (a, b, c)).filter fun t => (prs t).all fun q => decide (q ∈ L)).map eT) c', S) := by
    intro a b hbn acc c hacc
    have hlen : ((upTo (b + 1) n).flatMap fun c => if ((prs (a, b, c)).all fun q => decide (q ∈ L)) = true then [eT (a, b, c)] else []).length ≤ 100 := by
      rw [flat_if (fun t => (prs t).all fun q => decide (q ∈ L)) (fun c => (a, b, c)) eT, List.length_map]
      refine Nat.le_trans (List.length_filter_le _ _) ?_
      rw [List.length_map, upTo_len]
      omega
    obtain ⟨c', e⟩ := for_acc (tg := .one 6) (S := S) (body := sSeq (sIf (tOf (eBc oAll (aCons (eLc (itSeq (eCall m_pairs_of 1 (aCons (eTup (aCons (eVar 4) (aCons (eVar 5) (aCons (eVar 6) aNil)))) aNil))) [7] (.one 7) tTrue (eOp (cD inP) (eVar 7) (eVar 2))) aNil))) (sSeq (sApp 3 (eTup (aCons (eVar 4) (aCons (eVar 5) (aCons (eVar 6) aNil))))) sNil) sNil) sNil)
      (fun acc (c : Option Cell) => E acc (some (.u (.d (eI a))), some (.u (.d (eI b))), c)) eI (fun c => if ((prs (a, b, c)).all fun q => decide (q ∈ L)) = true then [eT (a, b, c)] else []) LIM (upTo (b + 1) n) acc c.2.2 (by omega) (fun acc c k hk hb => by
        refine ⟨[(6, eI k)], some (.u (.d (eI k))), rfl, ?_⟩
        have := hpr (a, b, k) acc
        rw [ap_sSeq, ap_sIf]
        have hsd : setD (E acc (some (.u (.d (eI a))), some (.u (.d (eI b))), c)) [(6, eI k)] = E acc (some (.u (.d (eI a))), some (.u (.d (eI b))), some (.u (.d (eI k)))) := rfl
        rw [hsd, this]
        cases hp : (prs (a, b, k)).all fun q => decide (q ∈ L) with
        | false => simp [hp]
        | true =>
          rw [hp] at hb
          simp at hb
          have hb' : acc.length < LIM := by omega
          simp [E, eI, eT, hb', hp])
    rw [flat_if (fun t => (prs t).all fun q => decide (q ∈ L)) (fun c => (a, b, c)) eT] at e
    refine ⟨(some (.u (.d (eI a))), some (.u (.d (eI b))), c'), ?_⟩
    refine seq_to (sFor_of (items := (upTo (b + 1) n).map eI) ?_ e) rfl
    have := ints_upTo (b + 1) n
    simp at this
    simp [E, eI, this]
    omega
  have hmem : ∀ p ∈ allPairs n, p.2 < n := fun p hp => by
    unfold allPairs at hp
    obtain ⟨a, _, h⟩ := List.mem_flatMap.mp hp
    obtain ⟨b, hb, rfl⟩ := List.mem_map.mp h
    exact (mem_upTo.mp hb).2
  have hf : ∀ p : P2, ((((upTo (p.2 + 1) n).map fun c => (p.1, p.2, c)).filter fun t => (prs t).all fun q => decide (q ∈ L)).map eT).length ≤ 100 := fun p => by
    rw [List.length_map]
    refine Nat.le_trans (List.length_filter_le _ _) ?_
    rw [List.length_map, upTo_len]
    omega
  have hlen := flat_len (fun p : P2 => (((upTo (p.2 + 1) n).map fun c => (p.1, p.2, c)).filter fun t => (prs t).all fun q => decide (q ∈ L)).map eT) 100 (allPairs n) (fun p _ => hf p)
  have hlen9 := allPairs_len9 n hn
  have hL9 : LIM = 1000000 := rfl
  obtain ⟨c', e⟩ := for_acc (tg := .tup [4, 5]) (S := S) (body := sSeq (sFor (itR2 (aCons (eOp oAdd (eVar 5) (eC (.int 1))) (aCons (eVar 0) aNil))) (.one 6) (sSeq (sIf (tOf (eBc oAll (aCons (eLc (itSeq (eCall m_pairs_of 1 (aCons (eTup (aCons (eVar 4) (aCons (eVar 5) (aCons (eVar 6) aNil)))) aNil))) [7] (.one 7) tTrue (eOp (cD inP) (eVar 7) (eVar 2))) aNil))) (sSeq (sApp 3 (eTup (aCons (eVar 4) (aCons (eVar 5) (aCons (eVar 6) aNil))))) sNil) sNil) sNil)) sNil)
    E eQ (fun p => (((upTo (p.2 + 1) n).map fun c => (p.1, p.2, c)).filter fun t => (prs t).all fun q => decide (q ∈ L)).map eT) (LIM - 100) (allPairs n) [] (none, none, none) (by simp only [List.length_nil]; omega) (fun acc c p hp hb => by
      obtain ⟨c2, e2⟩ := inner p.1 p.2 (hmem p hp) acc c (by omega)
      exact ⟨[(4, eI p.1), (5, eI p.2)], c2, rfl, e2⟩)
  have e2 : (allPairs n).flatMap (fun p => (((upTo (p.2 + 1) n).map fun c => (p.1, p.2, c)).filter fun t => (prs t).all fun q => decide (q ∈ L)).map eT) = (openL n l).map eT := by
    rw [openL, List.map_flatMap, hL]
  rw [e2] at e
  unfold m_open_list
  obtain ⟨c1, c2, c3⟩ := c'
  refine fn_rt (δ1 := E ([] ++ (openL n l).map eT) (c1, c2, c3)) ?_
  refine seq_to (δ1 := [some (.u (.d (.int n))), some (.u (.d (eP l))), some (.u (.d (.list (L.map eQ)))), none, none, none, none, none]) (S1 := S) ?_ (seq_to (δ1 := E [] (none, none, none)) (S1 := S) rfl (seq_to (sFor_of (items := (allPairs n).map eQ) ?_ e) ?_))
  · simp [ev_left_of n (by omega) l hl, hL]
  · simp [E, ev_all_pairs n (by omega)]
  · cases c1 <;> cases c2 <;> cases c3 <;> simp [E]
def partnersL (n : Nat) (l : List T3) (p : Nat) : List Nat := (List.range n).filter fun x => decide ((min x p, max x p) ∈ met l)
end PM
/-! The typed layer: full plans, found by trying all threes for the first pair. -/
namespace PM
open PySem DL PySem.W
def leN (a b : Nat) : Bool := decide (a ≤ b)
def leT (a b : T3) : Bool := !ltT b a
def sort3 (a b c : Nat) : T3 := match isort leN [a, b, c] with
  | [x, y, z] => (x, y, z)
  | _ => (0, 0, 0)
def sortT (l : List T3) : List T3 := isort leT l
def qmem (q : P2) (l : List P2) : Bool := l.any fun p => Nat.beq p.1 q.1 && Nat.beq p.2 q.2
theorem qmem_iff {q : P2} {l : List P2} : qmem q l = true ↔ q ∈ l := by
  unfold qmem
  rw [List.any_eq_true]
  constructor
  · rintro ⟨p, hp, h⟩
    rw [Bool.and_eq_true, Nat.beq_eq, Nat.beq_eq] at h
    have : p = q := Prod.ext h.1 h.2
    exact this ▸ hp
  · intro h
    exact ⟨q, h, by rw [Bool.and_eq_true, Nat.beq_eq, Nat.beq_eq]; exact ⟨rfl, rfl⟩⟩
theorem qmem_eq (q : P2) (l : List P2) : qmem q l = decide (q ∈ l) := by
  cases h : qmem q l with
  | true => exact (decide_eq_true (qmem_iff.mp h)).symm
  | false => exact (decide_eq_false fun z => by rw [qmem_iff.mpr z] at h; cases h).symm
/-- the threes that may be put in for the first pair -/
def kids (n : Nat) : List P2 → List T3
  | [] => []
  | (a, b) :: r => (List.range n).flatMap fun c => if ((!Nat.beq c a && !Nat.beq c b) && (prs (sort3 a b c)).all fun q => qmem q ((a, b) :: r)) = true then [sort3 a b c] else []
def fp (n : Nat) : Nat → List T3 → List P2 → List (List T3)
  | _, here, [] => [here]
  | 0, _, _ :: _ => []
  | k + 1, here, p :: r => (kids n (p :: r)).reverse.flatMap fun t => fp n k (here ++ [t]) ((p :: r).filter fun q => !qmem q (prs t))
def fullPlans (n : Nat) (l : List T3) : List (List T3) := (fp n (leftOf n l).length l (leftOf n l)).map sortT
/-! ### pairs -/
theorem mem_met {p : P2} {l : List T3} : p ∈ met l ↔ ∃ t ∈ l, p ∈ prs t := by
  unfold met
  exact List.mem_flatMap
theorem met_append (l m : List T3) : met (l ++ m) = met l ++ met m := by
  unfold met
  exact List.flatMap_append
theorem mem_allPairs {n : Nat} {p : P2} : p ∈ allPairs n ↔ p.1 < p.2 ∧ p.2 < n := by
  unfold allPairs
  rw [List.mem_flatMap]
  constructor
  · rintro ⟨a, ha, h⟩
    obtain ⟨b, hb, rfl⟩ := List.mem_map.mp h
    have := mem_upTo.mp hb
    exact ⟨by simp only; omega, this.2⟩
  · intro h
    exact ⟨p.1, List.mem_range.mpr (by omega), List.mem_map.mpr ⟨p.2, mem_upTo.mpr ⟨by omega, h.2⟩, rfl⟩⟩
theorem mem_leftOf {n : Nat} {l : List T3} {p : P2} : p ∈ leftOf n l ↔ p ∈ allPairs n ∧ p ∉ met l := by
  unfold leftOf
  rw [List.mem_filter, Bool.not_eq_true', decide_eq_false_iff_not]
theorem left_append (n : Nat) (l : List T3) (t : T3) : leftOf n (l ++ [t]) = (leftOf n l).filter fun q => !qmem q (prs t) := by
  unfold leftOf
  rw [List.filter_filter]
  refine List.filter_congr fun p _ => ?_
  rw [met_append, qmem_eq]
  have : met [t] = prs t := by simp [met]
  rw [this]
  by_cases h1 : p ∈ met l <;> by_cases h2 : p ∈ prs t <;> simp [h1, h2]
theorem okT_iff {n : Nat} {t : T3} : okT n t = true ↔ t.1 < t.2.1 ∧ t.2.1 < t.2.2 ∧ t.2.2 < n := by
  unfold okT
  exact decide_eq_true_iff
theorem mem_prs {t : T3} {p : P2} : p ∈ prs t ↔ p = (t.1, t.2.1) ∨ p = (t.1, t.2.2) ∨ p = (t.2.1, t.2.2) := by
  unfold prs
  simp
theorem prs_ok {n : Nat} {t : T3} {p : P2} (h : okT n t = true) (hp : p ∈ prs t) : p ∈ allPairs n := by
  have := okT_iff.mp h
  rw [mem_allPairs]
  rcases mem_prs.mp hp with e | e | e <;> subst e <;> simp only <;> omega
theorem prs_nodup {n : Nat} {t : T3} (h : okT n t = true) : (prs t).Nodup := by
  have := okT_iff.mp h
  unfold prs
  simp only [List.nodup_cons, List.mem_cons, List.not_mem_nil, Prod.mk.injEq, or_false, not_or, not_and, List.nodup_nil, and_true, not_false_eq_true]
  omega
structure Good (n : Nat) (h : List T3) : Prop where
  ok : ∀ t ∈ h, okT n t = true
  nd : (met h).Nodup
theorem share : ∀ {l : List T3} {s t : T3} {q : P2}, (met l).Nodup → s ∈ l → t ∈ l → q ∈ prs s → q ∈ prs t → s = t
  | [], _, _, _, _, h, _, _, _ => nomatch h
  | x :: l, s, t, q, nd, hs, ht, qs, qt => by
    have e : met (x :: l) = prs x ++ met l := by simp [met]
    rw [e, List.nodup_append] at nd
    obtain ⟨_, n2, n3⟩ := nd
    rcases List.mem_cons.mp hs with h1 | h1 <;> rcases List.mem_cons.mp ht with h2 | h2
    · rw [h1, h2]
    · subst h1
      exact absurd rfl (n3 q qs q (mem_met.mpr ⟨t, h2, qt⟩))
    · subst h2
      exact absurd rfl (n3 q qt q (mem_met.mpr ⟨s, h1, qs⟩))
    · exact share n2 h1 h2 qs qt
theorem good_nodup : ∀ {n : Nat} {l : List T3}, Good n l → l.Nodup
  | _, [], _ => List.nodup_nil
  | n, x :: l, g => by
    have e : met (x :: l) = prs x ++ met l := by simp [met]
    have nd := g.nd
    rw [e, List.nodup_append] at nd
    refine List.nodup_cons.mpr ⟨fun hx => ?_, good_nodup ⟨fun t ht => g.ok t (List.mem_cons_of_mem _ ht), nd.2.1⟩⟩
    exact nd.2.2 (x.1, x.2.1) (by simp [prs]) (x.1, x.2.1) (mem_met.mpr ⟨x, hx, by simp [prs]⟩) rfl
theorem good_snoc {n : Nat} {l : List T3} {t : T3} (g : Good n l) (ht : okT n t = true) (hd : ∀ q ∈ prs t, q ∉ met l) : Good n (l ++ [t]) := by
  refine ⟨fun s hs => ?_, ?_⟩
  · rcases List.mem_append.mp hs with h | h
    · exact g.ok s h
    · rw [List.mem_singleton.mp h]; exact ht
  · rw [met_append]
    have : met [t] = prs t := by simp [met]
    rw [this, List.nodup_append]
    exact ⟨g.nd, prs_nodup ht, fun a ha b hb e => hd b hb (e ▸ ha)⟩
/-! ### three players -/
theorem sort3_eq (a b c : Nat) (hab : a < b) (h1 : c ≠ a) (h2 : c ≠ b) : sort3 a b c = if c < a then (c, a, b) else if c < b then (a, c, b) else (a, b, c) := by
  unfold sort3 isort
  by_cases h3 : c < a
  · have e1 : ¬ b ≤ c := by omega
    have e2 : ¬ a ≤ c := by omega
    have e3 : a ≤ b := by omega
    simp [ins, leN, e1, e2, e3, h3]
  · by_cases h4 : c < b
    · have e1 : ¬ b ≤ c := by omega
      have e2 : a ≤ c := by omega
      simp [ins, leN, e1, e2, h3, h4]
    · have e1 : b ≤ c := by omega
      have e2 : a ≤ b := by omega
      simp [ins, leN, e1, e2, h3, h4]
theorem sort3_pair {a b c : Nat} (hab : a < b) (h1 : c ≠ a) (h2 : c ≠ b) : (a, b) ∈ prs (sort3 a b c) := by
  rw [sort3_eq a b c hab h1 h2, mem_prs]
  split
  · simp
  · split <;> simp
theorem sort3_ok {n a b c : Nat} (hab : a < b) (hb : b < n) (hc : c < n) (h1 : c ≠ a) (h2 : c ≠ b) : okT n (sort3 a b c) = true := by
  rw [sort3_eq a b c hab h1 h2, okT_iff]
  split
  · exact ⟨by assumption, hab, hb⟩
  · split
    · exact ⟨by simp only; omega, by simp only; omega, hb⟩
    · exact ⟨hab, by simp only; omega, hc⟩
theorem sort3_inj {a b c d : Nat} (hab : a < b) (h1 : c ≠ a) (h2 : c ≠ b) (h3 : d ≠ a) (h4 : d ≠ b) (e : sort3 a b c = sort3 a b d) : c = d := by
  rw [sort3_eq a b c hab h1 h2, sort3_eq a b d hab h3 h4] at e
  split at e <;> split at e <;> (try split at e) <;> (try split at e) <;> simp only [Prod.mk.injEq] at e <;> omega
theorem third {n : Nat} {t : T3} {a b : Nat} (ht : okT n t = true) (hp : (a, b) ∈ prs t) : ∃ c, c < n ∧ c ≠ a ∧ c ≠ b ∧ sort3 a b c = t := by
  have h := okT_iff.mp ht
  obtain ⟨x, y, z⟩ := t
  simp only at h
  rcases mem_prs.mp hp with e | e | e <;> simp only [Prod.mk.injEq] at e <;> obtain ⟨rfl, rfl⟩ := e
  · refine ⟨z, by omega, by omega, by omega, ?_⟩
    rw [sort3_eq _ _ _ (by omega) (by omega) (by omega), if_neg (by omega), if_neg (by omega)]
  · refine ⟨y, by omega, by omega, by omega, ?_⟩
    rw [sort3_eq _ _ _ (by omega) (by omega) (by omega), if_neg (by omega), if_pos (by omega)]
  · refine ⟨x, by omega, by omega, by omega, ?_⟩
    rw [sort3_eq _ _ _ (by omega) (by omega) (by omega), if_pos (by omega)]
theorem mem_kids {n a b : Nat} {r : List P2} {t : T3} : t ∈ kids n ((a, b) :: r) ↔ ∃ c, c < n ∧ c ≠ a ∧ c ≠ b ∧ sort3 a b c = t ∧ ∀ q ∈ prs t, q ∈ (a, b) :: r := by
  unfold kids
  rw [List.mem_flatMap]
  constructor
  · rintro ⟨c, hc, h⟩
    split at h
    · rename_i hh
      rw [List.mem_singleton] at h
      subst h
      rw [Bool.and_eq_true, Bool.and_eq_true, Bool.not_eq_true', Bool.not_eq_true'] at hh
      obtain ⟨⟨h1, h2⟩, h3⟩ := hh
      exact ⟨c, List.mem_range.mp hc, Nat.ne_of_beq_eq_false h1, Nat.ne_of_beq_eq_false h2, rfl, fun q hq => qmem_iff.mp (List.all_eq_true.mp h3 q hq)⟩
    · cases h
  · rintro ⟨c, hc, h1, h2, rfl, h3⟩
    refine ⟨c, List.mem_range.mpr hc, ?_⟩
    rw [if_pos]
    · exact List.mem_singleton.mpr rfl
    · rw [Bool.and_eq_true, Bool.and_eq_true, Bool.not_eq_true', Bool.not_eq_true']
      refine ⟨⟨?_, ?_⟩, List.all_eq_true.mpr fun q hq => qmem_iff.mpr (h3 q hq)⟩
      · exact Bool.eq_false_iff.mpr fun z => h1 (Nat.eq_of_beq_eq_true z)
      · exact Bool.eq_false_iff.mpr fun z => h2 (Nat.eq_of_beq_eq_true z)
end PM
/-! The typed layer: the search finds every full plan, once. -/
namespace PM
open PySem DL PySem.W
theorem kid_ok {n a b : Nat} {r : List P2} {h : List T3} {t : T3} (hl : leftOf n h = (a, b) :: r) (g : Good n h) (ht : t ∈ kids n ((a, b) :: r)) : Good n (h ++ [t]) ∧ (a, b) ∈ prs t := by
  obtain ⟨c, hc, h1, h2, e, h3⟩ := mem_kids.mp ht
  have hab : (a, b) ∈ leftOf n h := by rw [hl]; exact List.mem_cons_self
  have hm := mem_allPairs.mp (mem_leftOf.mp hab).1
  simp only at hm
  subst e
  refine ⟨good_snoc g (sort3_ok hm.1 hm.2 hc h1 h2) fun q hq => ?_, sort3_pair hm.1 h1 h2⟩
  have := h3 q hq
  rw [← hl] at this
  exact (mem_leftOf.mp this).2
theorem fp_sound {n : Nat} : ∀ (k : Nat) (h : List T3) (left : List P2) (q : List T3), left = leftOf n h → Good n h → q ∈ fp n k h left → Good n q ∧ leftOf n q = [] ∧ ∃ r, q = h ++ r
  | k, h, [], q, hl, g, hq => by
    have e : fp n k h [] = [h] := by cases k <;> rfl
    rw [e, List.mem_singleton] at hq
    subst hq
    exact ⟨g, hl.symm, [], (List.append_nil _).symm⟩
  | 0, h, p :: r, q, hl, g, hq => nomatch hq
  | k + 1, h, (a, b) :: r, q, hl, g, hq => by
    unfold fp at hq
    obtain ⟨t, ht, hq⟩ := List.mem_flatMap.mp hq
    rw [List.mem_reverse] at ht
    obtain ⟨g', hp⟩ := kid_ok hl.symm g ht
    obtain ⟨a1, a2, r', a3⟩ := fp_sound k (h ++ [t]) _ q (by rw [hl, left_append]) g' hq
    exact ⟨a1, a2, t :: r', by rw [a3, List.append_assoc]; rfl⟩
theorem full_same {n : Nat} {h p : List T3} (hl : leftOf n h = []) (gp : Good n p) (hs : ∀ t ∈ h, t ∈ p) : ∀ t, t ∈ h ↔ t ∈ p := by
  intro t
  refine ⟨hs t, fun ht => ?_⟩
  have hq : (t.1, t.2.1) ∈ prs t := by simp [prs]
  have ha := prs_ok (gp.ok t ht) hq
  have hm : (t.1, t.2.1) ∈ met h := by
    refine Classical.byContradiction fun z => ?_
    have := mem_leftOf.mpr ⟨ha, z⟩
    rw [hl] at this
    cases this
  obtain ⟨s, hs1, hs2⟩ := mem_met.mp hm
  rw [share gp.nd ht (hs s hs1) hq hs2]
  exact hs1
theorem fp_complete {n : Nat} {p : List T3} (gp : Good n p) (fl : leftOf n p = []) : ∀ (k : Nat) (h : List T3) (left : List P2), left = leftOf n h → left.length ≤ k → Good n h → (∀ t ∈ h, t ∈ p) → ∃ q ∈ fp n k h left, ∀ t, t ∈ q ↔ t ∈ p
  | k, h, [], hl, _, g, hs => by
    have e : fp n k h [] = [h] := by cases k <;> rfl
    rw [e]
    exact ⟨h, List.mem_singleton.mpr rfl, full_same hl.symm gp hs⟩
  | 0, h, x :: r, hl, hk, g, hs => absurd hk (by simp)
  | k + 1, h, (a, b) :: r, hl, hk, g, hs => by
    have hab : (a, b) ∈ leftOf n h := by rw [← hl]; exact List.mem_cons_self
    have hu := mem_leftOf.mp hab
    have hmp : (a, b) ∈ met p := Classical.byContradiction fun z => by
      have := mem_leftOf.mpr ⟨hu.1, z⟩
      rw [fl] at this
      cases this
    obtain ⟨t, ht, hpt⟩ := mem_met.mp hmp
    obtain ⟨c, c1, c2, c3, c4⟩ := third (gp.ok t ht) hpt
    have hk' : t ∈ kids n ((a, b) :: r) := by
      refine mem_kids.mpr ⟨c, c1, c2, c3, c4, fun q hq => ?_⟩
      rw [hl]
      refine mem_leftOf.mpr ⟨prs_ok (gp.ok t ht) hq, fun z => ?_⟩
      obtain ⟨s, hs1, hs2⟩ := mem_met.mp z
      have e := share gp.nd ht (hs s hs1) hq hs2
      subst e
      exact hu.2 (mem_met.mpr ⟨t, hs1, hpt⟩)
    obtain ⟨g', _⟩ := kid_ok hl.symm g hk'
    have hlen : (((a, b) :: r).filter fun q => !qmem q (prs t)).length ≤ k := by
      have : (!qmem (a, b) (prs t)) = false := by rw [qmem_iff.mpr hpt]; rfl
      rw [List.filter_cons_of_neg (by rw [this]; exact Bool.false_ne_true)]
      have := List.length_filter_le (fun q => !qmem q (prs t)) r
      simp only [List.length_cons] at hk
      omega
    obtain ⟨q, hq, hqq⟩ := fp_complete gp fl k (h ++ [t]) _ (by rw [hl, left_append]) hlen g' (fun s hs' => by
      rcases List.mem_append.mp hs' with z | z
      · exact hs s z
      · rw [List.mem_singleton.mp z]; exact ht)
    refine ⟨q, ?_, hqq⟩
    unfold fp
    exact List.mem_flatMap.mpr ⟨t, List.mem_reverse.mpr hk', hq⟩
theorem kids_nodup {n a b : Nat} {r : List P2} (hab : a < b) : (kids n ((a, b) :: r)).Nodup := by
  unfold kids
  have key : ∀ l : List Nat, l.Nodup → (l.flatMap fun c => if ((!Nat.beq c a && !Nat.beq c b) && (prs (sort3 a b c)).all fun q => qmem q ((a, b) :: r)) = true then [sort3 a b c] else []).Nodup := by
    intro l
    induction l with
    | nil => intro _; exact List.nodup_nil
    | cons c l ih =>
      intro nd
      rw [List.nodup_cons] at nd
      rw [List.flatMap_cons, List.nodup_append]
      refine ⟨by split <;> simp, ih nd.2, fun x hx y hy e => ?_⟩
      subst e
      split at hx
      · rename_i hh
        rw [List.mem_singleton] at hx
        obtain ⟨d, hd, hy⟩ := List.mem_flatMap.mp hy
        split at hy
        · rename_i hh'
          rw [List.mem_singleton] at hy
          rw [Bool.and_eq_true, Bool.and_eq_true, Bool.not_eq_true', Bool.not_eq_true'] at hh hh'
          have := sort3_inj hab (Nat.ne_of_beq_eq_false hh.1.1) (Nat.ne_of_beq_eq_false hh.1.2) (Nat.ne_of_beq_eq_false hh'.1.1) (Nat.ne_of_beq_eq_false hh'.1.2) (hx.symm.trans hy)
          exact nd.1 (this ▸ hd)
        · cases hy
      · cases hx
  exact key _ List.nodup_range
def Differ (q q' : List T3) : Prop := ¬ ∀ t, t ∈ q ↔ t ∈ q'
theorem pw_flat {α β : Type} {R : β → β → Prop} {f : α → List β} : ∀ l : List α, (∀ x ∈ l, (f x).Pairwise R) → l.Pairwise (fun x y => ∀ a ∈ f x, ∀ b ∈ f y, R a b) → (l.flatMap f).Pairwise R
  | [], _, _ => List.Pairwise.nil
  | x :: l, h1, h2 => by
    rw [List.pairwise_cons] at h2
    rw [List.flatMap_cons, List.pairwise_append]
    refine ⟨h1 x List.mem_cons_self, pw_flat l (fun y hy => h1 y (List.mem_cons_of_mem _ hy)) h2.2, fun a ha b hb => ?_⟩
    obtain ⟨y, hy, hb⟩ := List.mem_flatMap.mp hb
    exact h2.1 y hy a ha b hb
theorem fp_differ {n : Nat} : ∀ (k : Nat) (h : List T3) (left : List P2), left = leftOf n h → Good n h → (fp n k h left).Pairwise Differ
  | k, h, [], hl, g => by
    have e : fp n k h [] = [h] := by cases k <;> rfl
    rw [e]
    exact List.pairwise_singleton _ _
  | 0, h, x :: r, hl, g => List.Pairwise.nil
  | k + 1, h, (a, b) :: r, hl, g => by
    have hab : (a, b) ∈ leftOf n h := by rw [← hl]; exact List.mem_cons_self
    have hm := mem_allPairs.mp (mem_leftOf.mp hab).1
    simp only at hm
    unfold fp
    refine pw_flat _ (fun t ht => ?_) ?_
    · obtain ⟨g', _⟩ := kid_ok hl.symm g (List.mem_reverse.mp ht)
      exact fp_differ k _ _ (by rw [hl, left_append]) g'
    · have nd := (List.reverse_perm (kids n ((a, b) :: r))).symm.nodup (kids_nodup hm.1)
      refine (List.Pairwise.and_mem.mp nd).imp fun {t s} ⟨ht, hs, hne⟩ q hq q' hq' same => ?_
      obtain ⟨gt, pt⟩ := kid_ok hl.symm g (List.mem_reverse.mp ht)
      obtain ⟨gs, ps⟩ := kid_ok hl.symm g (List.mem_reverse.mp hs)
      obtain ⟨G1, _, r1, e1⟩ := fp_sound k _ _ q (by rw [hl, left_append]) gt hq
      obtain ⟨G2, _, r2, e2⟩ := fp_sound k _ _ q' (by rw [hl, left_append]) gs hq'
      have m1 : t ∈ q := by rw [e1]; simp
      have m2 : s ∈ q' := by rw [e2]; simp
      exact hne (share G1.nd m1 ((same s).mpr m2) pt ps)
end PM
/-! The typed layer: sorted plans; the full plans that contain a plan. -/
namespace PM
open PySem DL PySem.W
section
variable {α : Type} {le : α → α → Bool}
theorem ins_perm (a : α) : ∀ l : List α, (ins le a l).Perm (a :: l)
  | [] => List.Perm.refl _
  | b :: l => by
    unfold ins
    split
    · exact List.Perm.refl _
    · exact ((ins_perm a l).cons b).trans (List.Perm.swap a b l)
theorem isort_perm : ∀ l : List α, (isort le l).Perm l
  | [] => List.Perm.refl _
  | a :: l => by
    show (ins le a (isort le l)).Perm (a :: l)
    exact (ins_perm a _).trans ((isort_perm l).cons a)
theorem isort_pw (tr : ∀ a b c, le a b = true → le b c = true → le a c = true) (to : ∀ a b, (le a b || le b a) = true) (l : List α) : (isort le l).Pairwise fun a b => le a b = true := by
  rw [← isort_merge tr to]
  exact List.pairwise_mergeSort tr to l
theorem isort_eq (tr : ∀ a b c, le a b = true → le b c = true → le a c = true) (to : ∀ a b, (le a b || le b a) = true) (as : ∀ a b, le a b = true → le b a = true → a = b) {l m : List α} (h : l.Perm m) (hm : m.Pairwise fun a b => le a b = true) : isort le l = m :=
  List.Perm.eq_of_pairwise (le := fun a b => le a b = true) (fun a b _ _ => as a b) (isort_pw tr to l) hm ((isort_perm l).trans h)
theorem isort_map {β : Type} {le' : β → β → Bool} (e : α → β) (h : ∀ a b, le' (e a) (e b) = le a b) : ∀ l : List α, isort le' (l.map e) = (isort le l).map e
  | [] => rfl
  | a :: l => by
    show ins le' (e a) (isort le' (l.map e)) = (ins le a (isort le l)).map e
    rw [isort_map e h l]
    have key : ∀ m : List α, ins le' (e a) (m.map e) = (ins le a m).map e := by
      intro m
      induction m with
      | nil => rfl
      | cons b m ih =>
        show (if le' (e a) (e b) = true then e a :: e b :: m.map e else e b :: ins le' (e a) (m.map e)) = (if le a b = true then a :: b :: m else b :: ins le a m).map e
        rw [h, ih]
        split <;> rfl
    exact key _
end
theorem ltT_iff {s t : T3} : ltT s t = true ↔ s.1 < t.1 ∨ (s.1 = t.1 ∧ (s.2.1 < t.2.1 ∨ (s.2.1 = t.2.1 ∧ s.2.2 < t.2.2))) := by
  unfold ltT
  exact decide_eq_true_iff
theorem leT_iff {s t : T3} : leT s t = true ↔ ¬ ltT t s = true := by
  unfold leT
  cases ltT t s <;> simp
theorem leT_trans (a b c : T3) (h1 : leT a b = true) (h2 : leT b c = true) : leT a c = true := by
  rw [leT_iff, ltT_iff] at *
  omega
theorem leT_total (a b : T3) : (leT a b || leT b a) = true := by
  rw [Bool.or_eq_true, leT_iff, leT_iff, ltT_iff, ltT_iff]
  omega
theorem leT_anti (a b : T3) (h1 : leT a b = true) (h2 : leT b a = true) : a = b := by
  rw [leT_iff, ltT_iff] at *
  obtain ⟨a1, a2, a3⟩ := a
  obtain ⟨b1, b2, b3⟩ := b
  simp only [Prod.mk.injEq] at *
  omega
theorem leT_of_lt {a b : T3} (h : ltT a b = true) : leT a b = true := by
  rw [leT_iff, ltT_iff]
  rw [ltT_iff] at h
  omega
theorem ltT_of {a b : T3} (h : leT a b = true) (hne : a ≠ b) : ltT a b = true := by
  cases h2 : ltT a b with
  | true => rfl
  | false =>
    have : leT b a = true := by rw [leT_iff, h2]; exact Bool.false_ne_true
    exact absurd (leT_anti a b h this) hne
theorem ltT_ne {a b : T3} (h : ltT a b = true) : a ≠ b := fun e => by
  subst e
  rw [ltT_iff] at h
  omega
theorem ltT_trans {a b c : T3} (h1 : ltT a b = true) (h2 : ltT b c = true) : ltT a c = true := by
  rw [ltT_iff] at *
  omega
def Up (l : List T3) : Prop := l.Pairwise fun a b => ltT a b = true
theorem adj_up : ∀ {l : List T3}, adj l = true ↔ Up l
  | [] => ⟨fun _ => List.Pairwise.nil, fun _ => rfl⟩
  | [_] => ⟨fun _ => List.pairwise_singleton _ _, fun _ => rfl⟩
  | a :: b :: l => by
    have ih := adj_up (l := b :: l)
    show (ltT a b && adj (b :: l)) = true ↔ _
    unfold Up at *
    rw [Bool.and_eq_true, List.pairwise_cons]
    constructor
    · rintro ⟨h1, h2⟩
      have h3 := ih.mp h2
      refine ⟨fun c hc => ?_, h3⟩
      rcases List.mem_cons.mp hc with rfl | hc
      · exact h1
      · exact ltT_trans h1 ((List.pairwise_cons.mp h3).1 c hc)
    · rintro ⟨h1, h2⟩
      exact ⟨h1 b List.mem_cons_self, ih.mpr h2⟩
theorem stands_iff {n : Nat} {l : List T3} : standsB n l = true ↔ Good n l ∧ Up l := by
  unfold standsB
  rw [Bool.and_eq_true, Bool.and_eq_true, adj_up, decide_eq_true_iff, List.all_eq_true]
  exact ⟨fun ⟨a, b, c⟩ => ⟨⟨a, b⟩, c⟩, fun ⟨⟨a, b⟩, c⟩ => ⟨a, b, c⟩⟩
theorem sortT_perm (l : List T3) : (sortT l).Perm l := isort_perm l
theorem sortT_mem {l : List T3} {t : T3} : t ∈ sortT l ↔ t ∈ l := (sortT_perm l).mem_iff
theorem sortT_up {l : List T3} (nd : l.Nodup) : Up (sortT l) := by
  have h1 := isort_pw leT_trans leT_total l
  have h2 : (sortT l).Nodup := (sortT_perm l).symm.nodup nd
  exact (List.Pairwise.and h1 h2).imp fun ⟨a, b⟩ => ltT_of a b
theorem Up.nodup {l : List T3} (h : Up l) : l.Nodup := h.imp fun h => ltT_ne h
theorem sortT_eq {l m : List T3} (h : l.Perm m) (hm : Up m) : sortT l = m := isort_eq leT_trans leT_total leT_anti h (hm.imp fun h => leT_of_lt h)
theorem met_perm {l m : List T3} (h : l.Perm m) : (met l).Perm (met m) := by
  unfold met
  exact h.flatMap_right _
theorem Good.perm {n : Nat} {l m : List T3} (h : l.Perm m) (g : Good n l) : Good n m := ⟨fun t ht => g.ok t (h.mem_iff.mpr ht), (met_perm h).nodup g.nd⟩
theorem left_same {n : Nat} {l m : List T3} (h : ∀ t, t ∈ l ↔ t ∈ m) : leftOf n l = leftOf n m := by
  unfold leftOf
  refine List.filter_congr fun p _ => ?_
  have : p ∈ met l ↔ p ∈ met m := by
    rw [mem_met, mem_met]
    exact ⟨fun ⟨t, a, b⟩ => ⟨t, (h t).mp a, b⟩, fun ⟨t, a, b⟩ => ⟨t, (h t).mpr a, b⟩⟩
  by_cases h1 : p ∈ met l
  · simp [h1, this.mp h1]
  · have h2 : p ∉ met m := fun z => h1 (this.mpr z)
    simp [h1, h2]
theorem stands_sort {n : Nat} {l : List T3} (g : Good n l) : standsB n (sortT l) = true := stands_iff.mpr ⟨g.perm (sortT_perm l).symm, sortT_up (good_nodup g)⟩
theorem mem_full {n : Nat} {l p : List T3} (hl : Good n l) : p ∈ fullPlans n l ↔ standsB n p = true ∧ leftOf n p = [] ∧ ∀ t ∈ l, t ∈ p := by
  unfold fullPlans
  rw [List.mem_map]
  constructor
  · rintro ⟨q, hq, rfl⟩
    obtain ⟨g, hf, r, e⟩ := fp_sound _ l _ q rfl hl hq
    refine ⟨stands_sort g, ?_, fun t ht => sortT_mem.mpr (by rw [e]; exact List.mem_append_left _ ht)⟩
    rw [← hf]
    exact left_same fun t => sortT_mem
  · rintro ⟨hs, hf, hc⟩
    obtain ⟨g, up⟩ := stands_iff.mp hs
    obtain ⟨q, hq, hsame⟩ := fp_complete g hf _ l _ rfl (Nat.le_refl _) hl hc
    have gq := (fp_sound _ l _ q rfl hl hq).1
    exact ⟨q, hq, sortT_eq ((List.perm_ext_iff_of_nodup (good_nodup gq) up.nodup).mpr hsame) up⟩
theorem full_nodup {n : Nat} {l : List T3} (hl : Good n l) : (fullPlans n l).Nodup := by
  unfold fullPlans List.Nodup
  rw [List.pairwise_map]
  exact (fp_differ _ l _ rfl hl).imp fun {a b} h e => h fun t => by rw [← sortT_mem, e, sortT_mem]
theorem good_nil (n : Nat) : Good n [] := ⟨fun _ h => (nomatch h), List.nodup_nil⟩
def has (l p : List T3) : Bool := l.all fun t => decide (t ∈ p)
theorem has_iff {l p : List T3} : has l p = true ↔ ∀ t ∈ l, t ∈ p := by
  unfold has
  rw [List.all_eq_true]
  exact ⟨fun h t ht => of_decide_eq_true (h t ht), fun h t ht => decide_eq_true (h t ht)⟩
/-- the full plans that contain a plan, among all of them -/
theorem full_filter {n : Nat} {l : List T3} (hl : Good n l) : (fullPlans n l).Perm ((fullPlans n []).filter (has l)) := by
  refine (List.perm_ext_iff_of_nodup (full_nodup hl) ((full_nodup (good_nil n)).filter _)).mpr fun p => ?_
  rw [List.mem_filter, mem_full hl, mem_full (good_nil n), has_iff]
  exact ⟨fun ⟨a, b, c⟩ => ⟨⟨a, b, fun _ h => (nomatch h)⟩, c⟩, fun ⟨⟨a, b, _⟩, c⟩ => ⟨a, b, c⟩⟩
theorem full_count {n : Nat} {l : List T3} (hl : Good n l) : (fullPlans n l).length = ((fullPlans n []).filter (has l)).length := (full_filter hl).length_eq
end PM
/-! The typed layer: names. -/
namespace PM
open PySem DL PySem.W
theorem leD_I (a b : Nat) : leD (eI a) (eI b) = leN a b := by
  unfold leD eI leN
  rw [dataLt_int]
  by_cases h : a ≤ b
  · have : ¬ (b : Int) < a := by omega
    simp [h, this]
  · have : (b : Int) < a := by omega
    simp [h, this]
theorem leD_T (a b : T3) : leD (eT a) (eT b) = leT a b := by
  unfold leD leT
  rw [dataLt_T]
theorem sortOk_I (l : List Nat) (h : l.length ≤ LIM) : sortOk (l.map eI) = true := by
  unfold sortOk
  simp only [List.all_map, List.length_map, Bool.and_eq_true, List.all_eq_true, Function.comp_apply, decide_eq_true_eq, Bool.or_eq_true]
  exact ⟨⟨⟨fun a _ b _ => by simp [eI, alike], .inr fun a _ => rfl⟩, fun a _ => rfl⟩, h⟩
theorem sortOk_T (l : List T3) (h : l.length ≤ LIM) : sortOk (l.map eT) = true := by
  unfold sortOk
  simp only [List.all_map, List.length_map, Bool.and_eq_true, List.all_eq_true, Function.comp_apply, decide_eq_true_eq, Bool.or_eq_true]
  exact ⟨⟨⟨fun a _ b _ => alike_T a b, .inl fun a _ => rfl⟩, fun a _ => dok_T a⟩, h⟩
theorem oSort_I (l : List Nat) (h : l.length ≤ LIM) : oSort [.d (.list (l.map eI))] = some (.d (.list ((isort leN l).map eI))) := by
  show (if sortOk (l.map eI) = true then some (U.d (PyData.list (srtD (l.map eI)))) else none) = _
  rw [if_pos (sortOk_I l h), srtD, isort_map eI leD_I]
theorem oSort_Tt (l : List T3) (h : l.length ≤ LIM) : oSort [.d (.tuple (l.map eT))] = some (.d (.list ((sortT l).map eT))) := by
  show (if sortOk (l.map eT) = true then some (U.d (PyData.list (srtD (l.map eT)))) else none) = _
  rw [if_pos (sortOk_T l h), srtD, isort_map eT leD_T]
  rfl
theorem tup3 (a b c : Nat) : PyData.tuple ((isort leN [a, b, c]).map eI) = eT (sort3 a b c) := by
  have hl : (isort leN [a, b, c]).length = 3 := (isort_perm (le := leN) [a, b, c]).length_eq
  unfold sort3
  match h : isort leN [a, b, c], hl with
  | [x, y, z], _ => rfl
def nm (names : List Nat) (t : T3) : T3 := sort3 (names.getD t.1 0) (names.getD t.2.1 0) (names.getD t.2.2 0)
theorem atI_nat {α : Type} (l : List α) (i : Nat) (h : i < l.length) : L2.atI l (i : Int) = some l[i] := by
  unfold L2.atI L2.ixN
  simp [h]
end PM
/-! The typed layer: other names keep plans and full plans. -/
namespace PM
open PySem DL PySem.W
theorem getD_at {l : List Nat} {i : Nat} (h : i < l.length) : l.getD i 0 = l[i] := by simp [h]
/-- names of n players -/
structure Names (n : Nat) (names : List Nat) : Prop where
  perm : names.Perm (List.range n)
theorem Names.len {n : Nat} {names : List Nat} (h : Names n names) : names.length = n := by
  rw [h.perm.length_eq, List.length_range]
theorem Names.inj {n : Nat} {names : List Nat} (h : Names n names) {a b : Nat} (ha : a < n) (hb : b < n) (e : names.getD a 0 = names.getD b 0) : a = b := by
  have hl : a < names.length := by rw [h.len]; exact ha
  have hl2 : b < names.length := by rw [h.len]; exact hb
  rw [getD_at hl, getD_at hl2] at e
  have nd : names.Nodup := h.perm.symm.nodup List.nodup_range
  rcases Nat.lt_trichotomy a b with z | z | z
  · exact absurd e (List.pairwise_iff_getElem.mp nd a b hl hl2 z)
  · exact z
  · exact absurd e.symm (List.pairwise_iff_getElem.mp nd b a hl2 hl z)
/-- the pairs of three players in any order -/
def pr2 (a b : Nat) : P2 := (min a b, max a b)
theorem pr2_lt {a b : Nat} (h : a < b) : pr2 a b = (a, b) := by unfold pr2; rw [Nat.min_eq_left (by omega), Nat.max_eq_right (by omega)]
end PM
/-! The typed layer: drawn names, drawn full plans. -/
namespace PM
open PySem DL PySem.W
theorem at_last {α : Type} (l : List α) (x : α) : L2.atI (l ++ [x]) (-1) = some x := by
  unfold L2.atI L2.ixN
  rw [if_neg (by omega), if_pos (by rw [List.length_append, List.length_singleton]; omega)]
  show (l ++ [x])[(-1 + ((l ++ [x]).length : Int)).toNat]? = some x
  rw [show (-1 + ((l ++ [x]).length : Int)).toNat = l.length by rw [List.length_append, List.length_singleton]; omega]
  simp
end PM
/-! The typed layer: drawn full plans. -/
namespace PM
open PySem DL PySem.W
end PM
/-! The typed layer: small words. -/
namespace PM
open PySem DL PySem.W
def memT (k : Nat) (t : T3) : Bool := Nat.beq t.1 k || (Nat.beq t.2.1 k || Nat.beq t.2.2 k)
theorem memT_any (k : Nat) (t : T3) : ([.int (t.1 : Int), .int (t.2.1 : Int), .int (t.2.2 : Int)] : List PyData).any (fun y => PyData.eqv y (.int (k : Int))) = memT k t := by
  unfold memT
  simp only [List.any_cons, List.any_nil, Bool.or_false, eqv_int]
  have h : ∀ a : Nat, decide ((a : Int) = k) = Nat.beq a k := fun a => by
    cases h : Nat.beq a k with
    | true => exact decide_eq_true (by rw [Nat.eq_of_beq_eq_true h])
    | false => exact decide_eq_false (by have := Nat.ne_of_beq_eq_false h; omega)
  rw [h, h, h]
theorem inP_T (k : Nat) (t : T3) : inP (.int (k : Int)) (eT t) = some (memT k t) := by
  unfold eT
  rw [inP_t, if_pos (dok_I _), memT_any]
theorem depth_all {α : Type} (e : α → PyData) (k : Nat) (h : ∀ a, (e a).depth ≤ k) : ∀ l : List α, PyData.depthAll (l.map e) ≤ k
  | [] => by
    rw [List.map_nil, PyData.depthAll]
    exact Nat.zero_le _
  | a :: l => by
    rw [List.map_cons, PyData.depthAll]
    exact Nat.max_le.mpr ⟨h a, depth_all e k h l⟩
theorem depth_I (a : Int) : (PyData.int a).depth = 0 := by simp [PyData.depth]
theorem depth_T (t : T3) : (eT t).depth ≤ 1 := by simp [eT, PyData.depth, PyData.depthAll]
theorem depth_P (l : List T3) : (eP l).depth ≤ 2 := by
  unfold eP
  rw [PyData.depth]
  have := depth_all eT 1 depth_T l
  omega
theorem dok_P (l : List T3) : dOk (eP l) = true := decide_eq_true (Nat.le_trans (depth_P l) (by decide))
theorem dok_list {α : Type} (e : α → PyData) (k : Nat) (hk : k ≤ 90) (h : ∀ a, (e a).depth ≤ k) (l : List α) : dOk (.list (l.map e)) = true := by
  refine decide_eq_true ?_
  rw [PyData.depth]
  have := depth_all e k h l
  omega
theorem eqP_list {α : Type} [DecidableEq α] {e : α → PyData} (he : EqE e) (k : Nat) (hk : k ≤ 90) (h : ∀ a, (e a).depth ≤ k) (l m : List α) : eqP (.list (l.map e)) (.list (m.map e)) = some (decide (l = m)) := by
  unfold eqP
  rw [if_pos (by rw [dok_list e k hk h]; rfl), eqe_list he]
theorem depth_eI (a : Nat) : (eI a).depth ≤ 0 := Nat.le_of_eq (depth_I _)
theorem neP_P (l m : List T3) : neP (eP l) (eP m) = some (!decide (l = m)) := by
  unfold neP
  rw [if_pos (by rw [dok_P]; rfl), eqe_P]
theorem eqP_P (l m : List T3) : eqP (eP l) (eP m) = some (decide (l = m)) := by
  unfold eqP
  rw [if_pos (by rw [dok_P]; rfl), eqe_P]
def gN (n : Nat) : Nat := [1, 1, 2, 4, 7, 8, 12].getD (n - 3) 0
end PM
/-! All full plans, searched with numbers. -/
namespace PM
open PySem DL PySem.W
def pix (q : P2) : Nat := q.1 * 9 + q.2
def tms (t : T3) : Nat := 2 ^ pix (t.1, t.2.1) ||| (2 ^ pix (t.1, t.2.2) ||| 2 ^ pix (t.2.1, t.2.2))
def code (c : Nat) (t : T3) : Nat := c * 1024 + (t.1 * 81 + (t.2.1 * 9 + t.2.2))
def srch (n : Nat) : List P2 → Nat → Nat → List Nat
  | [], _, c => [c]
  | q :: ps, m, c => if Nat.testBit m (pix q) = true then srch n ps m c else (upTo (q.2 + 1) n).flatMap fun z => if Nat.beq (m &&& tms (q.1, q.2, z)) 0 = true then srch n ps (m ||| tms (q.1, q.2, z)) (code c (q.1, q.2, z)) else []
def encP (c : Nat) (l : List T3) : Nat := l.foldl code c
theorem tms_bit (t : T3) (i : Nat) : Nat.testBit (tms t) i = true ↔ ∃ q ∈ prs t, pix q = i := by
  unfold tms
  rw [Nat.testBit_or, Nat.testBit_or, Nat.testBit_two_pow, Nat.testBit_two_pow, Nat.testBit_two_pow]
  simp only [Bool.or_eq_true, decide_eq_true_iff, mem_prs]
  constructor
  · rintro (h | h | h)
    · exact ⟨_, .inl rfl, h⟩
    · exact ⟨_, .inr (.inl rfl), h⟩
    · exact ⟨_, .inr (.inr rfl), h⟩
  · rintro ⟨q, (rfl | rfl | rfl), h⟩
    · exact .inl h
    · exact .inr (.inl h)
    · exact .inr (.inr h)
theorem pix_inj {p q : P2} (hp : p.2 < 9) (hq : q.2 < 9) (e : pix p = pix q) : p = q := by
  unfold pix at e
  exact Prod.ext (by omega) (by omega)
def Mk (m : Nat) (h : List T3) : Prop := ∀ i, Nat.testBit m i = true ↔ ∃ q ∈ met h, pix q = i
theorem Mk.at {n : Nat} (hn : n ≤ 9) {m : Nat} {h : List T3} (k : Mk m h) (g : ∀ q ∈ met h, q.2 < n) {q : P2} (hq : q.2 < n) : Nat.testBit m (pix q) = true ↔ q ∈ met h := by
  rw [k (pix q)]
  exact ⟨fun ⟨p, hp, e⟩ => pix_inj (by have := g p hp; omega) (by omega) e ▸ hp, fun hm => ⟨q, hm, rfl⟩⟩
theorem Mk.snoc {m : Nat} {h : List T3} (k : Mk m h) (t : T3) : Mk (m ||| tms t) (h ++ [t]) := by
  intro i
  rw [Nat.testBit_or, Bool.or_eq_true, k i, tms_bit, met_append, show met [t] = prs t by simp [met]]
  simp only [List.mem_append]
  constructor
  · rintro (⟨q, a, b⟩ | ⟨q, a, b⟩)
    · exact ⟨q, .inl a, b⟩
    · exact ⟨q, .inr a, b⟩
  · rintro ⟨q, a | a, b⟩
    · exact .inl ⟨q, a, b⟩
    · exact .inr ⟨q, a, b⟩
/-- the pairs in their order -/
def ltQ (p q : P2) : Prop := p.1 < q.1 ∨ (p.1 = q.1 ∧ p.2 < q.2)
theorem upTo_pw (m n : Nat) : (upTo m n).Pairwise (· < ·) := by
  unfold upTo
  rw [List.pairwise_map]
  exact List.pairwise_lt_range.imp fun h => by omega
theorem allPairs_pw (n : Nat) : (allPairs n).Pairwise ltQ := by
  unfold allPairs
  refine pw_flat _ (fun a _ => ?_) ?_
  · rw [List.pairwise_map]
    exact (upTo_pw _ _).imp fun h => .inr ⟨rfl, h⟩
  · refine List.pairwise_lt_range.imp fun {a b} h p hp q hq => ?_
    obtain ⟨_, _, rfl⟩ := List.mem_map.mp hp
    obtain ⟨_, _, rfl⟩ := List.mem_map.mp hq
    exact .inl h
theorem srch_complete {n : Nat} (hn : n ≤ 9) {p : List T3} (gp : Good n p) (up : Up p) (fl : leftOf n p = []) : ∀ (ps : List P2) (m c : Nat) (h r : List T3), p = h ++ r → ps.Pairwise ltQ → (∀ q ∈ ps, q ∈ allPairs n) → (∀ t ∈ r, (t.1, t.2.1) ∈ ps) → Mk m h → encP c r ∈ srch n ps m c
  | [], m, c, h, r, e, _, _, hr, k => by
    have : r = [] := List.eq_nil_iff_forall_not_mem.mpr fun t ht => by cases hr t ht
    subst this
    exact List.mem_singleton.mpr rfl
  | q :: ps, m, c, h, r, e, pw, hq, hr, k => by
    have hqa := mem_allPairs.mp (hq q List.mem_cons_self)
    have hmem : ∀ t ∈ h, t ∈ p := fun t ht => e ▸ List.mem_append_left _ ht
    have rmem : ∀ t ∈ r, t ∈ p := fun t ht => e ▸ List.mem_append_right _ ht
    have gq : ∀ q ∈ met h, q.2 < n := fun x hx => by
      obtain ⟨t, ht, hx⟩ := mem_met.mp hx
      exact (mem_allPairs.mp (prs_ok (gp.ok t (hmem t ht)) hx)).2
    have hbit := k.at hn gq hqa.2
    have ndp := good_nodup gp
    rw [e] at ndp
    have disj : ∀ t ∈ h, ∀ s ∈ r, t ≠ s := (List.nodup_append.mp ndp).2.2
    obtain ⟨pw1, pw2⟩ := List.pairwise_cons.mp pw
    unfold srch
    by_cases hb : q ∈ met h
    · rw [if_pos (hbit.mpr hb)]
      refine srch_complete hn gp up fl ps m c h r e pw2 (fun x hx => hq x (List.mem_cons_of_mem _ hx)) (fun t ht => ?_) k
      rcases List.mem_cons.mp (hr t ht) with z | z
      · obtain ⟨s, hs, hqs⟩ := mem_met.mp hb
        have : s = t := share gp.nd (hmem s hs) (rmem t ht) hqs (by rw [← z]; simp [prs])
        exact absurd this (disj s hs t ht)
      · exact z
    · rw [if_neg (fun z => hb (hbit.mp z))]
      have hmp : q ∈ met p := Classical.byContradiction fun z => by
        have := mem_leftOf.mpr ⟨hq q List.mem_cons_self, z⟩
        rw [fl] at this
        cases this
      obtain ⟨t, ht, hqt⟩ := mem_met.mp hmp
      have htr : t ∈ r := by
        rw [e] at ht
        rcases List.mem_append.mp ht with z | z
        · exact absurd (mem_met.mpr ⟨t, z, hqt⟩) hb
        · exact z
      have tok := okT_iff.mp (gp.ok t ht)
      have first : (t.1, t.2.1) = q := by
        rcases List.mem_cons.mp (hr t htr) with z | z
        · exact z
        · have h3 := pw1 _ z
          unfold ltQ at h3
          rcases mem_prs.mp hqt with w | w | w
          · exact w.symm
          · rw [w] at h3
            simp only at h3
            omega
          · rw [w] at h3
            simp only at h3
            omega
      obtain ⟨r', er⟩ : ∃ r', r = t :: r' := by
        cases r with
        | nil => cases htr
        | cons s r' =>
          refine ⟨r', ?_⟩
          rcases List.mem_cons.mp htr with z | z
          · rw [z]
          · have up' : Up (h ++ s :: r') := e ▸ up
            have hlt := (List.pairwise_cons.mp (List.pairwise_append.mp up').2.1).1 t z
            rw [ltT_iff] at hlt
            have hs := hr s List.mem_cons_self
            rcases List.mem_cons.mp hs with w | w
            · have : s = t := share gp.nd (rmem s List.mem_cons_self) ht (q := q) (by rw [← w]; simp [prs]) hqt
              rw [this]
            · have h3 := pw1 _ w
              unfold ltQ at h3
              rw [← first] at h3
              simp only at h3
              omega
      subst er
      have htq : t = (q.1, q.2, t.2.2) := by rw [← first]
      refine List.mem_flatMap.mpr ⟨t.2.2, mem_upTo.mpr ⟨by rw [← first]; simp only; omega, tok.2.2⟩, ?_⟩
      rw [← htq]
      have hz : m &&& tms t = 0 := Nat.eq_of_testBit_eq fun i => by
        rw [Nat.testBit_and, Nat.zero_testBit]
        refine Bool.eq_false_iff.mpr fun z => ?_
        rw [Bool.and_eq_true, k i, tms_bit] at z
        obtain ⟨⟨x, hx, ex⟩, y, hy, ey⟩ := z
        obtain ⟨s, hs, hxs⟩ := mem_met.mp hx
        have hx2 := gq x hx
        have hy2 := (mem_allPairs.mp (prs_ok (gp.ok t ht) hy)).2
        have : x = y := pix_inj (by omega) (by omega) (ex.trans ey.symm)
        subst this
        exact disj s hs t List.mem_cons_self (share gp.nd (hmem s hs) ht hxs hy)
      rw [if_pos (by rw [hz]; rfl)]
      refine srch_complete hn gp up fl ps (m ||| tms t) (code c t) (h ++ [t]) r' (by rw [e]; simp) pw2 (fun x hx => hq x (List.mem_cons_of_mem _ hx)) (fun s hs => ?_) (k.snoc t)
      rcases List.mem_cons.mp (hr s (List.mem_cons_of_mem _ hs)) with w | w
      · have nd2 := (List.nodup_append.mp ndp).2.1
        have : s = t := share gp.nd (rmem s (List.mem_cons_of_mem _ hs)) ht (q := q) (by rw [← w]; simp [prs]) hqt
        exact absurd (this ▸ hs) (List.nodup_cons.mp nd2).1
      · exact w
def decP : Nat → Nat → List T3 → List T3
  | 0, _, acc => acc
  | k + 1, c, acc => if Nat.ble c 1 = true then acc else decP k (c / 1024) ((c % 1024 / 81, c % 1024 % 81 / 9, c % 1024 % 9) :: acc)
theorem dec_one : ∀ (k : Nat) (acc : List T3), decP k 1 acc = acc
  | 0, _ => rfl
  | _ + 1, _ => rfl
theorem dec_enc : ∀ (l : List T3) (k c : Nat) (acc : List T3), 1 ≤ c → (∀ t ∈ l, t.1 < 9 ∧ t.2.1 < 9 ∧ t.2.2 < 9) → decP (k + l.length) (encP c l) acc = decP k c (l ++ acc)
  | [], k, c, acc, _, _ => rfl
  | t :: l, k, c, acc, hc, h => by
    have ih := dec_enc l (k + 1) (code c t) acc (by unfold code; omega) fun s hs => h s (List.mem_cons_of_mem _ hs)
    have ht := h t List.mem_cons_self
    rw [List.length_cons, show k + (l.length + 1) = k + 1 + l.length by omega]
    show decP (k + 1 + l.length) (encP (code c t) l) acc = decP k c (t :: (l ++ acc))
    rw [ih]
    have e1 : code c t / 1024 = c := by unfold code; omega
    have e2 : code c t % 1024 = t.1 * 81 + (t.2.1 * 9 + t.2.2) := by unfold code; omega
    have e3 : Nat.ble (code c t) 1 = false := Bool.eq_false_iff.mpr fun z => by
      have := Nat.le_of_ble_eq_true z
      unfold code at this
      omega
    show (if Nat.ble (code c t) 1 = true then l ++ acc else decP k (code c t / 1024) ((code c t % 1024 / 81, code c t % 1024 % 81 / 9, code c t % 1024 % 9) :: (l ++ acc))) = _
    rw [e3, if_neg Bool.false_ne_true, e1, e2]
    have : ((t.1 * 81 + (t.2.1 * 9 + t.2.2)) / 81, (t.1 * 81 + (t.2.1 * 9 + t.2.2)) % 81 / 9, (t.1 * 81 + (t.2.1 * 9 + t.2.2)) % 9) = t := Prod.ext (by simp only; omega) (Prod.ext (by simp only; omega) (by simp only; omega))
    rw [this]
theorem full_len {n : Nat} (hn : n ≤ 9) {p : List T3} (g : Good n p) : p.length ≤ 20 := by
  have h := nodup_len g.nd (m := allPairs n) fun q hq => by
    obtain ⟨t, ht, hq⟩ := mem_met.mp hq
    exact prs_ok (g.ok t ht) hq
  have h2 : (allPairs n).length ≤ 36 := by
    have : ∀ n ≤ 9, (allPairs n).length ≤ 36 := by decide +kernel
    exact this n hn
  rw [met_len] at h
  omega
/-- every full plan stands among the codes that the search finds -/
theorem full_code {n : Nat} (hn : n ≤ 9) {p : List T3} (hp : p ∈ fullPlans n []) : ∃ c ∈ srch n (allPairs n) 0 1, decP 20 c [] = p := by
  obtain ⟨hs, hf, _⟩ := (mem_full (good_nil n)).mp hp
  obtain ⟨g, up⟩ := stands_iff.mp hs
  have hl := full_len hn g
  refine ⟨encP 1 p, srch_complete hn g up hf (allPairs n) 0 1 [] p rfl (allPairs_pw n) (fun _ h => h) (fun t ht => prs_ok (g.ok t ht) (by simp [prs])) ?_, ?_⟩
  · intro i
    rw [Nat.zero_testBit]
    exact ⟨fun z => (nomatch z), fun ⟨q, h, _⟩ => (nomatch h)⟩
  · have := dec_enc p (20 - p.length) 1 [] (Nat.le_refl _) fun t ht => by
      have := okT_iff.mp (g.ok t ht)
      omega
    rw [show 20 - p.length + p.length = 20 by omega] at this
    rw [this, dec_one, List.append_nil]
end PM
/-! The full plans for nine players. Printed by a program. -/
namespace PM
def F9_0 : List Nat := [1343546172535403010717373162708058489, 1343546172535403011869167667897484664, 1343546172535404191298860779893464450, 1343546172535404192450655285082890625, 1343546172535405369594769391441191297, 1343546172535405370737556697384273272, 1343546172535406550185264207872957826, 1343546172535406551328051513816039801, 1343546173762462716483433370662257017, 1343546173762462718778015181786376567, 1343546173762463895922131485028819329, 1343546173762463898207706096906594679, 1343546173762465077646408605024688523, 1343546173762465079949997615411929473, 1343546173762466257094113918637611403, 1343546173762466259388695729778508153, 1343546174999193829949197917948790136, 1343546174999193831091985223883483511, 1343546174999195009387898229191122306, 1343546174999195012825267346258323831, 1343546174999196189969385846368147851, 1343546174999196193415762162698470776, 1343546174999197371702667968742988171, 1343546174999197372854462473940802946, 1343547429044541715163025010442158457, 1343547429044541716314819516704277880, 1343547429044544065959838702993964498, 1343547429044544067111635407204547027, 1343547429044545244255748412979576274, 1343547429044545247702125839547417976]
def F9_1 : List Nat := [1343547429044546424846243231556729299, 1343547429044546427140825051279180153, 1343547430271601420929085216250970489, 1343547430271601423223667029520476535, 1343547430271603770583110505494511058, 1343547430271603774020479634369735031, 1343547430271604952307385428622998994, 1343547430271604954610978837035775452, 1343547430271606131755092943394076124, 1343547430271606132897878057841639801, 1343547431508332534394849762464810360, 1343547431508332535537637069472196983, 1343547431508334884048877250729507283, 1343547431508334886334449674321455479, 1343547431508336064630364870051919324, 1343547431508336065773148886061598072, 1343547431508337246363645891851876819, 1343547431508337247515442596054070748, 1343548695457201904107045133808345473, 1343548695457201905258841836946234754, 1343548695457203074322372307612630482, 1343548695457203075474169011823213011, 1343548695457205434342556940726730194, 1343548695457205436646147060278796673, 1343548695457206614933051759303883219, 1343548695457206616084846274155945346, 1343548697911321316781955049317506434, 1343548697911321317924740159449131383, 1343548697911322486997281125756599762, 1343548697911322489291861849178171767]
def F9_2 : List Nat := [1343548697911324847017465758870699474, 1343548697911324850463848672230928941, 1343548697911326027607959486527217026, 1343548697911326028750751182970188333, 1343548699148052430247719595531346305, 1343548699148052432542301408800860535, 1343548699148053600463047870991595987, 1343548699148053601605831891275278711, 1343548699148055960483230314747175297, 1343548699148055961626023109628031533, 1343548699148057141073726222099577299, 1343548699148057143368312431249224237, 1343549963096921798817125462983352705, 1343549963096921801111711670004390283, 1343549963096922969032452637860330962, 1343549963096922971327038847026755036, 1343549963096924150756727560988818898, 1343549963096924151908522075840881025, 1343549963096926510785920503586789771, 1343549963096926511937717198134736348, 1343549964323981505725972975807939960, 1343549964323981506868764676566849931, 1343549964323982677084089653503753682, 1343549964323982678235883069917939064, 1343549964323983855379999363489365458, 1343549964323983858817375077603242541, 1343549964323986216551980709395601803, 1343549964323986218846566909963694637, 1343549966797443733800293769002918273, 1343549966797443734952088275265045880]
def F9_3 : List Nat := [1343549966797444902872830353358505336, 1343549966797444904015623143965357532, 1343549966797446082311529565090259329, 1343549966797446084597110763279381037, 1343549966797448443483513090692380124, 1343549966797448444626302595639833133, 1343551230746313101226912329439157634, 1343551230746313102369701833322305931, 1343551230746314271442239506461522387, 1343551230746314272585029011417363932, 1343551230746315453166513338669374850, 1343551230746315454318310033217321427, 1343551230746316632605212552538134923, 1343551230746316634908804851786085852, 1343551231973372808135759842263744889, 1343551231973372810430346049284774283, 1343551231973373979493874332746432889, 1343551231973373980645672125732256211, 1343551231973375157789786232090556883, 1343551231973375160075365241993851437, 1343551231973376338371272760492333451, 1343551231973376341817654563615044141, 1343551233210103922744313892369121657, 1343551233210103923896110595507002754, 1343551233210105091816851574089892217, 1343551233210105094111438870958863836, 1343551233210106271255550787967032706, 1343551233210106274692926490272887341, 1343551233210107451837039496064693724, 1343551233210107452979829001012146733]
def F9_4 : List Nat := [1344832837894624038235305880235318649, 1344832837894624039387100386497438072, 1344832837894625218816793488820322690, 1344832837894625219968587995082442113, 1344832837894626397112702098233138561, 1344832837894626398255489413830459768, 1344832837894627577703196914662809986, 1344832837894627578845984230260131193, 1344832839121683744001366087117871481, 1344832839121683746295947908977303927, 1344832839121684923440064191821814145, 1344832839121684925725638823016448375, 1344832839121686105164341312877805963, 1344832839121686107467930325402052993, 1344832839121687284612046625426416011, 1344832839121687286906628447285864825, 1344832840358414857467130634405452152, 1344832840358414858609917950002765175, 1344832840358416036905830935983069570, 1344832840358416040343200073439823223, 1344832840358417217487318553158000011, 1344832840358417220933694881279568248, 1344832840358418399220600676595058059, 1344832840358418400372395182857185666, 1344834094403762742680957726897772921, 1344834094403762743832752233160939896, 1344834094403765093477771403329848786, 1344834094403765094629568106467738067, 1344834094403766271773681111179502034, 1344834094403766275220058546339365240]
def F9_5 : List Nat := [1344834094403767452364175927611268563, 1344834094403767454658757758069032313, 1344834095630822448447017933778230649, 1344834095630822450741599755639758199, 1344834095630824798101043204767130066, 1344834095630824801538412350825349495, 1344834095630825979825318128949455314, 1344834095630825982128911535225225692, 1344834095630827159273025638375922140, 1344834095630827160415810765694757241, 1344834096867553561912782481064763768, 1344834096867553563055569796663124343, 1344834096867555911566809948929433043, 1344834096867555913852382391848715639, 1344834096867557092148297566106458588, 1344834096867557093291081594988456312, 1344834096867558273881578591104592339, 1344834096867558275033375294242473436, 1344835360816422931624977840601340289, 1344835360816422932776774543738182018, 1344835360816424101840305006885249490, 1344835360816424102992101710023138771, 1344835360816426461860489638917227986, 1344835360816426464164079758478722433, 1344835360816427642450984455348994515, 1344835360816427643602778970210484610, 1344835363270542344299887758244364674, 1344835363270542345442672885558985079, 1344835363270543514515213826092484050, 1344835363270543516809794566705431927]
def F9_6 : List Nat := [1344835363270545874535398458124462546, 1344835363270545877981781368283373101, 1344835363270547055125892184716667266, 1344835363270547056268683876878293549, 1344835364507273457765652305530897793, 1344835364507273460060234135982359927, 1344835364507274627980980570254787027, 1344835364507274629123764607730893175, 1344835364507276988001163014010366337, 1344835364507276989143955804608829997, 1344835364507278168591658920279599571, 1344835364507278170886245127300620845, 1344836628456142826335058169775299969, 1344836628456142828629644376794242443, 1344836628456143996550385336060256722, 1344836628456143998844971543081294300, 1344836628456145178274660260242581970, 1344836628456145179426454775104072065, 1344836628456147538303853198567588235, 1344836628456147539455649893106106844, 1344836629683202533243905692254126456, 1344836629683202534386697384419967371, 1344836629683203704602022353830210002, 1344836629683203705753815778844797304, 1344836629683204882897932061679863250, 1344836629683204886335307772584041005, 1344836629683207244069913405448045963, 1344836629683207246364499603870752301, 1344836632156664761318226478993041793, 1344836632156664762470020993846143352]
def F9_7 : List Nat := [1344836632156665930390763060150452600, 1344836632156665931533555842154807772, 1344836632156667109829462263290185089, 1344836632156667112115043459331825197, 1344836632156669471001445786735396316, 1344836632156669472144235290618536493, 1344837896105534128744845036229009794, 1344837896105534129887634540111110539, 1344837896105535298960172202516061651, 1344837896105535300102961706399209948, 1344837896105536480684446036858825090, 1344837896105536481836242731397343699, 1344837896105537660123145248590579083, 1344837896105537662426737547829102044, 1344837897332593835653692558707836281, 1344837897332593837948278757136844171, 1344837897332595007011807040599550329, 1344837897332595008163604824984971731, 1344837897332596185307718928135668179, 1344837897332596187593297935901956653, 1344837897332597365889205455473131915, 1344837897332597369335587258593747501, 1344837898569324950262246609876478329, 1344837898569324951414043304423385474, 1344837898569326119334784280879744377, 1344837898569326121629371569147266524, 1344837898569327298773483484021571970, 1344837898569327302210859186324283949, 1344837898569328479354972191036064220, 1344837898569328480497761694919204397]
def F9_8 : List Nat := [1346129644458657506536753361757446520, 1346129644458657507688547868019563897, 1346129644458658687118240970342450561, 1346129644458658688270035476604567938, 1346129644458659865414149579755274616, 1346129644458659866556936895352577409, 1346129644458661046004644396184946041, 1346129644458661047147431711782248834, 1346129645685717212302813568640000375, 1346129645685717214597395390499428729, 1346129645685718391741511673343951223, 1346129645685718394027086304538564993, 1346129645685719573465788794399943041, 1346129645685719575769377806924169611, 1346129645685720752913494106948561273, 1346129645685720755208075928807973259, 1346129646922448325768578115927580023, 1346129646922448326911365431524891000, 1346129646922449505207278417505207671, 1346129646922449508644647554961938818, 1346129646922450685788766034680146296, 1346129646922450689235142362801675659, 1346129646922451867522048158117194114, 1346129646922451868673842664379303307, 1346132157476934915428057055081308535, 1346132157476934916579851561344474487, 1346132157476938436440189110296381906, 1346132157476938437591983616558499283, 1346132157476939614736099916583921106, 1346132157476939618182475154866955649]
def F9_9 : List Nat := [1346132157476940795326593634577801683, 1346132157476940797621174366598717826, 1346132158703994621194117261961765240, 1346132158703994623488699083823290744, 1346132158703998141063460911733663186, 1346132158703998144500828959351891329, 1346132158703999322787736934353874386, 1346132158703999325091325946878100956, 1346132158704000502235441148466683356, 1346132158704000503378227374225481099, 1346132159940725734659881809248296313, 1346132159940725735802669124846655865, 1346132159940729254529225459020194259, 1346132159940729256814799000376304002, 1346132159940730435110711977759333852, 1346132159940730436253498203518131595, 1346132159940731616843996298071125459, 1346132159940731617995790804333234652, 1346133423889595104372077168784884087, 1346133423889595105523873871921726839, 1346133423889597444802722713851782610, 1346133423889597445954517220113899987, 1346133423889599804822909542759533010, 1346133423889599807126496367016796546, 1346133423889600985413403260753413587, 1346133423889600986565195578748560769, 1346133426343714517046987086427899265, 1346133426343714518189772213742508417, 1346133426343716857477631533059017170, 1346133426343716859772211175233020290]
def F9_10 : List Nat := [1346133426343719217497818361966767570, 1346133426343719220944194681498362413, 1346133426343720398088308793256828299, 1346133426343720399231098288531168813, 1346133427580445630512751633714430338, 1346133427580445632807333464165882242, 1346133427580447970943396080345548243, 1346133427580447972086181216257435009, 1346133427580450330963579622549478795, 1346133427580450332106369117823819309, 1346133427580451511554077725684018643, 1346133427580451513848659538953496109, 1346134691529314999082157497958842744, 1346134691529315001376743704977795448, 1346134691529317339512804141464675794, 1346134691529317341807385954734169564, 1346134691529318521237080164084886994, 1346134691529318522388871383643184523, 1346134691529320881266269807115101569, 1346134691529320882418067600072639964, 1346134692756374705991005020437650817, 1346134692756374707133796712603511169, 1346134692756377047564441159234629074, 1346134692756377048716232387374472587, 1346134692756378225860351965522168274, 1346134692756378229297721085799030317, 1346134692756380587032330013996605826, 1346134692756380589326915113961513517, 1346134695229836934065325807176565131, 1346134695229836935217120322029657483]
def F9_11 : List Nat := [1346134695229839273353179668678043009, 1346134695229839274495970253807683036, 1346134695229840452791878871828259202, 1346134695229840455077456772546814509, 1346134695229842813963863493701929436, 1346134695229842815106650800709297709, 1346135959178706301491944364412552569, 1346135959178706302634733868294662521, 1346135959178708641922589909482594771, 1346135959178708643065377216489971164, 1346135959178709823646862645398986123, 1346135959178709824798661536801762771, 1346135959178711003085561857139138946, 1346135959178711005389155254795635164, 1346135960405766008400791886891360642, 1346135960405766010695378085320386946, 1346135960405768349974223649130274187, 1346135960405768351126022531951504851, 1346135960405769528270137733540087251, 1346135960405769530555712347554831917, 1346135960405770708851622064020645249, 1346135960405770712298002768684508717, 1346135961642497123009345938059993483, 1346135961642497124161142632606909835, 1346135961642499462297200889409429890, 1346135961642499464591787079238027740, 1346135961642500641735900092559648129, 1346135961642500645173273597977159213, 1346135961642501822317389898002597340, 1346135961642501823460177205009965613]
def F9_12 : List Nat := [1347427707531829679283852689943075192, 1347427707531829680435647196204145017, 1347427707531832040446816922733168082, 1347427707531832041598613625871057363, 1347427707531833217599940422023823736, 1347427707531833219885513946180133330, 1347427707531834398190434140015609209, 1347427707531834400476008762611899859, 1347427708758889385049912896824581495, 1347427708758889387344494718681914745, 1347427708758891743927301417174614391, 1347427708758891747355663355365073362, 1347427708758892926794363648352774610, 1347427708758892929097957054628544988, 1347427708758894105099281653903452537, 1347427708758894108536652979638671836, 1347427709995620498515677444110066039, 1347427709995620499658464759706329464, 1347427709995622857393065964460098935, 1347427709995622861973224605789494739, 1347427709995624037974552483197151608, 1347427709995624042563719413631326684, 1347427709995625220850624110507911635, 1347427709995625222002420813645792732, 1347428964040968383729504536604482935, 1347428964040968384881299042865553783, 1347428964040971915107787148177573331, 1347428964040971916259581654439692754, 1347428964040973092260909549029287297, 1347428964040973096850074282586662354]
def F9_13 : List Nat := [1347428964040974272851403267023167874, 1347428964040974276288773494318424531, 1347428965268028089495564743485987192, 1347428965268028091790146565343322488, 1347428965268031618588270544179029377, 1347428965268031623168428087071598034, 1347428965268032801455334972235056604, 1347428965268032803758923984759303634, 1347428965268033979760250780912049547, 1347428965268033982045826501945187804, 1347428966504759202961329290771470713, 1347428966504759204104116606367735161, 1347428966504762732054035091465560450, 1347428966504762735482398128096010707, 1347428966504763912635521610204700043, 1347428966504763914921097331237838300, 1347428966504765095511594335952308700, 1347428966504765096663388842214436307, 1347431496866288761617537074953765239, 1347431496866288762769331581214836087, 1347431496866289931832854355296773505, 1347431496866289932984648861558890882, 1347431496866293472434528792790566355, 1347431496866293474738116706886345171, 1347431496866294653025022510784448978, 1347431496866294654176815918618109394, 1347431500547467881201293408038340050, 1347431500547467882344079633788740050, 1347431500547469051416611786821338579, 1347431500547469053711192518833856979]
def F9_14 : List Nat := [1347431500547472590875497818879296988, 1347431500547472595464661454008214061, 1347431500547473771465989340007882204, 1347431500547473773751565061041020461, 1347431501784198994667060152200643027, 1347431501784198996961640884213161427, 1347431501784200164882376334107871698, 1347431501784200166025162559858271698, 1347431501784203704341260169300532700, 1347431501784203706626835890333670957, 1347431501784204884931757182596549084, 1347431501784204888369126311463347757, 1347432764506008656327618502565609848, 1347432764506008658622200315833018744, 1347432764506009826542935782909666689, 1347432764506009828837517596179160459, 1347432764506012188848699414115911132, 1347432764506012190000491723512733148, 1347432764506014548877890146984650194, 1347432764506014550029686850103684562, 1347432766960128070145312440484930002, 1347432766960128071288101935776066002, 1347432766960129241503421412996941276, 1347432766960129242655213730975309276, 1347432766960131599238031422434706899, 1347432766960131603818187858308881965, 1347432766960133960410010560747659731, 1347432766960133963847381886471365165, 1347432769433590298219635424100663772, 1347432769433590299371427742079031772]
def F9_15 : List Nat := [1347432769433591467292161012278879698, 1347432769433591468434950507570015698, 1347432769433593826169559418579313107, 1347432769433593829597923545056666157, 1347432769433596187341542950614478291, 1347432769433596189627117573219149357, 1347434032155399958737404270581433721, 1347434032155399959880191577587771769, 1347434032155401128952721550927585666, 1347434032155401130095508857934962059, 1347434032155403491258482985268534748, 1347434032155403492410280786832787932, 1347434032155404670697182197008687571, 1347434032155404673000774504826678739, 1347434034609519372555099306940734931, 1347434034609519374849684406930827731, 1347434034609520543913204992731110876, 1347434034609520545065002785713818076, 1347434034609522901647817190452627922, 1347434034609522905076179120064683565, 1347434034609524082229302610771699154, 1347434034609524086818469541194360365, 1347434035846250487163653358110415324, 1347434035846250488315451151093122524, 1347434035846251656236182233010266579, 1347434035846251658530767333000359379, 1347434035846254015113580639310702034, 1347434035846254019693740370487010861, 1347434035846255195695069354915147218, 1347434035846255197980643977519817261]
def F9_16 : List Nat := [1348725780508523346895470841526786433, 1348725780508523348047267544663628162, 1348725780508524527476948564169761234, 1348725780508524528628745267307650515, 1348725780508526885211559672044373377, 1348725780508526886354345880604427730, 1348725780508528065802053390038253954, 1348725780508528066944840697036194259, 1348725782962642758427591255289807223, 1348725782962642761864962581029241218, 1348725782962643937866281670935889271, 1348725782962643941294644698974307794, 1348725782962646300172042015408974290, 1348725782962646303627432116232691245, 1348725782962647479619748426403867010, 1348725782962647483066129131089730093, 1348725784199373871893357999451063671, 1348725784199373874178932622053655937, 1348725784199375051332046218223468919, 1348725784199375055912205949398729171, 1348725784199377412495019255697566081, 1348725784199377417093195565082384941, 1348725784199378594228302477564111315, 1348725784199378596531895875249938989, 1348727037017662051341122688188203383, 1348727037017662052492919391325046135, 1348727037017664402137918789614166483, 1348727037017664403289713295876285906, 1348727037017666759872528799060320642, 1348727037017666764470701821710961106]
def F9_17 : List Nat := [1348727037017667940463022517054203265, 1348727037017667943909401033442723283, 1348727039471781462873243101951203713, 1348727039471781466310614427690648961, 1348727039471783812527250797941350786, 1348727039471783817107409430680832466, 1348727039471786174833014429139198509, 1348727039471786178288397956515507666, 1348727039471787354280717553421901195, 1348727039471787355423507048696241709, 1348727040708512576339009846112459138, 1348727040708512578624584468715061634, 1348727040708514925993015345227883905, 1348727040708514929421379471705245139, 1348727040708517287155988382714551691, 1348727040708517288298777877988892205, 1348727040708518468889273792856450605, 1348727040708518471192862813970640339, 1348728303430322240285135112833910135, 1348728303430322241436929619097076087, 1348728303430323410500452393177964930, 1348728303430323411652246899440084353, 1348728303430326949959338416645988819, 1348728303430326953414723033860802003, 1348728303430328130549832134639871442, 1348728303430328132853422245592566226, 1348728307111501358726103040475308498, 1348728307111501361011678761516844498, 1348728307111502528941421419258307027, 1348728307111502532378791646561961427]
def F9_18 : List Nat := [1348728307111506069543095848170545709, 1348728307111506074141266691144156636, 1348728307111507250133588467727588909, 1348728307111507251276374693486386652, 1348728308348232472191869784637611475, 1348728308348232475629240011941265875, 1348728308348233642407185966544840146, 1348728308348233644692761687586376146, 1348728308348237183008859297020239405, 1348728308348237184151645522779037148, 1348728308348238363599355211887797805, 1348728308348238367045731548599290332, 1348730838709762029705297959467664769, 1348730838709762033142667088333433217, 1348730838709763199920615239822205314, 1348730838709763203357984368689012107, 1348730838709764382787679659288289837, 1348730838709764383939473067113569837, 1348730838709767922255570702325647826, 1348730838709767924559160813278342610, 1348730839936821736614144374909224402, 1348730839936821738899720095950760402, 1348730839936822909115040663019577901, 1348730839936822910266834070844857901, 1348730839936824086268163055289754067, 1348730839936824090848319499753872860, 1348730839936827628021630909207152083, 1348730839936827631468008335757149660, 1348730843647015079297020319847718445, 1348730843647015080448813727672998445]
def F9_19 : List Nat := [1348730843647016247226758592427592146, 1348730843647016249512334313469128146, 1348730843647017426665457795577808339, 1348730843647017430093820832216647132, 1348730843647020968418926747932044755, 1348730843647020969561714063529347548, 1348732106359153332115083727485583746, 1348732106359153334400658350088186242, 1348732106359154502330401007840126337, 1348732106359154504615975630444813707, 1348732106359155685197464328869371437, 1348732106359155686349261032005166637, 1348732106359158044074862752349685203, 1348732106359158047530248468001336787, 1348732107586213039023931241365029331, 1348732107586213042461302567105522131, 1348732107586214211524825332600659501, 1348732107586214212676622035736454701, 1348732107586215388677948823307675090, 1348732107586215392106310761509674460, 1348732107586217749840922959231191506, 1348732107586217754439095990480144860, 1348732110059675268241039343704381997, 1348732110059675269392836046840177197, 1348732110059676436170779813158979027, 1348732110059676439608151138899471827, 1348732110059677615609479016309197266, 1348732110059677620189637657646991836, 1348732110059679976772453152232713682, 1348732110059679977915240467830015452]
def F9_20 : List Nat := [1350023854712276720273149208581938561, 1350023854712276722576742606265687435, 1350023854712277900854626931225960914, 1350023854712277903158220328911804892, 1350023854712279079150539917215721857, 1350023854712279080293327224213662162, 1350023854712281440331527353203474827, 1350023854712281441474316857077187036, 1350023855939336426039209415463453048, 1350023855939336429485590120153530763, 1350023855939337605477900920956447096, 1350023855939337607763476633398602194, 1350023855939338787202173656845567442, 1350023855939338790657563749079357997, 1350023855939341147240374875681244555, 1350023855939341149534961074103950893, 1350023858412798652970742895196039544, 1350023858412798654113530202202368385, 1350023858412799832409430024121532792, 1350023858412799836998599134247436764, 1350023858412801012990916542858577281, 1350023858412801017589093942089260589, 1350023858412803375314694572565906908, 1350023858412803376466491267113853485, 1350025111221415424718801055243354488, 1350025111221415427022394452927113592, 1350025111221417775515598246518316508, 1350025111221417777819187267632489938, 1350025111221418953811509044232707467, 1350025111221418958409683165320195538]
def F9_21 : List Nat := [1350025111221421314992496480228861313, 1350025111221421317287081588783711708, 1350025112448475130484861262124850561, 1350025112448475133931241966814947713, 1350025112448477480138870047963995531, 1350025112448477484728036969805131218, 1350025112448478661863146061985865261, 1350025112448478665318529597952100818, 1350025112448481021901344002707677570, 1350025112448481023044134596410466861, 1350025114921937357416394741857426827, 1350025114921937358559182048863764875, 1350025114921939707070399151126996353, 1350025114921939709355977051853948380, 1350025114921940887651885669874524546, 1350025114921940888794676254995767853, 1350025114921943249975664789420369453, 1350025114921943251127459304272431580, 1350026377634075613662814569735973240, 1350026377634075615966403590852231544, 1350026377634076783878131850082114955, 1350026377634076786181720871196288385, 1350026377634079143898318661818375644, 1350026377634079147353704377470027228, 1350026377634081505079306097814529490, 1350026377634081506231102800933563858, 1350026380088195026337721200650002898, 1350026380088195027480510695941138898, 1350026380088196196553040669280951772, 1350026380088196199999419185686250972]
def F9_22 : List Nat := [1350026380088198556573227481017212461, 1350026380088198561171398332580758995, 1350026380088200917754216015441814061, 1350026380088200918897001142772163027, 1350026382561657253269254680384674268, 1350026382561657256715633196789973468, 1350026382561658423484569772443952594, 1350026382561658424627359267735088594, 1350026382561660783504757674027115053, 1350026382561660784647542809939010003, 1350026382561663144685746208451716653, 1350026382561663146980328038901099987, 1350027645273795508372895988757883265, 1350027645273795511819272325470406017, 1350027645273796678588213269113462155, 1350027645273796682034589605824946562, 1350027645273797860312489283135331885, 1350027645273797862616079394096407085, 1350027645273801400932177029300104658, 1350027645273801402083970437133765074, 1350027646500855215281743502637328850, 1350027646500855216424529728387728850, 1350027646500856386639850286866619949, 1350027646500856388943440397827695149, 1350027646500857564935761084581010908, 1350027646500857569524924736889807315, 1350027646500861106698237236181599708, 1350027646500861108992817959612581331, 1350027650211048556821829943694760493, 1350027650211048559125420054655835693]
def F9_23 : List Nat := [1350027650211049725894357720155696594, 1350027650211049727037143945906096594, 1350027650211050905333056923305903580, 1350027650211050907618630464653624787, 1350027650211054447095531976478034396, 1350027650211054448238319292075355603, 1350030180572578113192467524793713035, 1350030180572578114335254840389977483, 1350030180572579283407784805157692801, 1350030180572579284550572120755003778, 1350030180572580465132061917608010285, 1350030180572580467435652028569085485, 1350030180572581644570761129348171228, 1350030180572581648026145746571364828, 1350030181799637820101317235548930524, 1350030181799637823547694662107317724, 1350030181799638991459422921339298349, 1350030181799638993763013032300373549, 1350030181799640169755332620625241554, 1350030181799640172040907251819864531, 1350030181799641350336821336229686738, 1350030181799641354934993269050191315, 1350030183036368934709871286718602797, 1350030183036368937013461397679677997, 1350030183036370103782400161618462172, 1350030183036370107228777588176849372, 1350030183036371283221099364768689618, 1350030183036371287810264106924387795, 1350030183036372463802584785087760850, 1350030183036372464945372100685071827]
def F9_24 : List Nat := [1351321928925701501359541303581647234, 1351321928925701502511337998128554379, 1351321928925702681941019026227764691, 1351321928925702683092815720775719388, 1351321928925703860236930913778592130, 1351321928925703861379720417652304339, 1351321928925705040827424631772464523, 1351321928925705041970215234084062684, 1351321930152761207125601510463161721, 1351321930152761209420187708892169611, 1351321930152762386564291917519317369, 1351321930152762388849869826837244371, 1351321930152763568288565751847371219, 1351321930152763570592159140943272493, 1351321930152764747736272154252329355, 1351321930152764750030859451110826541, 1351321931389492320591368246034491769, 1351321931389492321734157749916592514, 1351321931389493500030056473396823417, 1351321931389493503467431077261657564, 1351321931389494680611542992135963010, 1351321931389494684057925885103481389, 1351321931389495862344826205412573660, 1351321931389495863496622899960520237, 1351323185434840205805193150243063161, 1351323185434840206956989844789979513, 1351323185434842556601989243082235356, 1351323185434842557753783757934289363, 1351323185434843734897900040796626315, 1351323185434843738344280754058833363]
def F9_25 : List Nat := [1351323185434844915488393758798897538, 1351323185434844917782979965790587356, 1351323186661899911571253357124559234, 1351323186661899913865839555553585538, 1351323186661902261225261044527914379, 1351323186661902264662634558543769043, 1351323186661903442949537058549784109, 1351323186661903445253126088253900243, 1351323186661904622397241281277715841, 1351323186661904623540032973417342509, 1351323187898631025037020092695880075, 1351323187898631026179809596577990027, 1351323187898633374691025600404382082, 1351323187898633376976604599568173532, 1351323187898634555272512119151912321, 1351323187898634556415303802709993005, 1351323187898635737005796422267036205, 1351323187898635738157590937119098332, 1351324451847500394749205566298843513, 1351324451847500395901000081151935865, 1351324451847501564964522846646033803, 1351324451847501566116317361498087810, 1351324451847503924984709658382294492, 1351324451847503927288301966208666076, 1351324451847505105575203376384565715, 1351324451847505106727001177940438483, 1351324454301619807424113295651806675, 1351324454301619808566903889379781075, 1351324454301620977639431665844870620, 1351324454301620979934016774424889820]
def F9_26 : List Nat := [1351324454301623337659618477581131309, 1351324454301623341105994822882560466, 1351324454301624518250114392448689709, 1351324454301624519392898421342201298, 1351324455538350920889880031224175068, 1351324455538350923184465139804194268, 1351324455538352091105196221721338323, 1351324455538352092247986815449312723, 1351324455538354451125385221741340205, 1351324455538354452268169259216397778, 1351324455538355631715877841298383405, 1351324455538355634010459671747767762, 1351325719487220289459286985320753538, 1351325719487220291753868815772205442, 1351325719487221459674604265677381003, 1351325719487221461969186096126748033, 1351325719487222641398880279699250733, 1351325719487222642550676982835045933, 1351325719487225001428075406306979283, 1351325719487225002579867715703801299, 1351325720714279996368136696075971027, 1351325720714279997510921823389532627, 1351325720714281167726241283430538797, 1351325720714281168878037986566333997, 1351325720714282346022152081144929756, 1351325720714282349459521227191608786, 1351325720714284707194135613188475356, 1351325720714284709488715238182619602, 1351325723187742224442455294534261293, 1351325723187742225594251997670056493]
def F9_27 : List Nat := [1351325723187743393514985267869920723, 1351325723187743394657770395183482323, 1351325723187744572953684471020128732, 1351325723187744575239256913931012562, 1351325723187746934125663609324701148, 1351325723187746935268450924922023378, 1351326987136611591869072753338664331, 1351326987136611593011860068937023883, 1351326987136612762084390033703690626, 1351326987136612763227177349301003649, 1351326987136613943808668244590847533, 1351326987136613944960461652416127533, 1351326987136615123247367456331008476, 1351326987136615125550955370418406876, 1351326988363671298777923562531767772, 1351326988363671301072504285954359772, 1351326988363672470136029248322135597, 1351326988363672471287822656147415597, 1351326988363673648431937849171239379, 1351326988363673650717512480365864402, 1351326988363674829013427663212522963, 1351326988363674832459802892897234386, 1351326989600402413386477613701440045, 1351326989600402414538271021526720045, 1351326989600403582459006488601299420, 1351326989600403584753587212023891420, 1351326989600404761897705691751525843, 1351326989600404765335073730771430866, 1351326989600405942479190013633758675, 1351326989600405943621977329231071698]
def F9 : List (List Nat) := [F9_0, F9_1, F9_2, F9_3, F9_4, F9_5, F9_6, F9_7, F9_8, F9_9, F9_10, F9_11, F9_12, F9_13, F9_14, F9_15, F9_16, F9_17, F9_18, F9_19, F9_20, F9_21, F9_22, F9_23, F9_24, F9_25, F9_26, F9_27]
theorem srch9 : srch 9 (allPairs 9) 0 1 = F9.flatten := by decide +kernel
theorem all_nine {P : List T3 → Bool} (h : ∀ C ∈ F9, (C.all fun c => P (decP 20 c [])) = true) {p : List T3} (hp : p ∈ fullPlans 9 []) : P p = true := by
  obtain ⟨c, hc, e⟩ := full_code (Nat.le_refl 9) hp
  rw [srch9, List.mem_flatten] at hc
  obtain ⟨C, hC, hc⟩ := hc
  have := List.all_eq_true.mp (h C hC) c hc
  rw [e] at this
  exact this
theorem nine_of {Q : List Nat → Prop} (h0 : Q F9_0) (h1 : Q F9_1) (h2 : Q F9_2) (h3 : Q F9_3) (h4 : Q F9_4) (h5 : Q F9_5) (h6 : Q F9_6) (h7 : Q F9_7) (h8 : Q F9_8) (h9 : Q F9_9) (h10 : Q F9_10) (h11 : Q F9_11) (h12 : Q F9_12) (h13 : Q F9_13) (h14 : Q F9_14) (h15 : Q F9_15) (h16 : Q F9_16) (h17 : Q F9_17) (h18 : Q F9_18) (h19 : Q F9_19) (h20 : Q F9_20) (h21 : Q F9_21) (h22 : Q F9_22) (h23 : Q F9_23) (h24 : Q F9_24) (h25 : Q F9_25) (h26 : Q F9_26) (h27 : Q F9_27) : ∀ C ∈ F9, Q C := by
  intro C hC
  simp only [F9, List.mem_cons, List.not_mem_nil, or_false] at hC
  rcases hC with rfl | rfl | rfl | rfl | rfl | rfl | rfl | rfl | rfl | rfl | rfl | rfl | rfl | rfl | rfl | rfl | rfl | rfl | rfl | rfl | rfl | rfl | rfl | rfl | rfl | rfl | rfl | rfl
  · exact h0
  · exact h1
  · exact h2
  · exact h3
  · exact h4
  · exact h5
  · exact h6
  · exact h7
  · exact h8
  · exact h9
  · exact h10
  · exact h11
  · exact h12
  · exact h13
  · exact h14
  · exact h15
  · exact h16
  · exact h17
  · exact h18
  · exact h19
  · exact h20
  · exact h21
  · exact h22
  · exact h23
  · exact h24
  · exact h25
  · exact h26
  · exact h27
end PM
/-! The same computed faster. -/
namespace PM
open PySem DL PySem.W
def okF (n : Nat) (t : T3) : Bool := Nat.blt t.1 t.2.1 && (Nat.blt t.2.1 t.2.2 && Nat.blt t.2.2 n)
theorem flat_congr {α β : Type} {f g : α → List β} : ∀ {l : List α}, (∀ x ∈ l, f x = g x) → l.flatMap f = l.flatMap g
  | [], _ => rfl
  | x :: l, h => by rw [List.flatMap_cons, List.flatMap_cons, h x List.mem_cons_self, flat_congr fun y hy => h y (List.mem_cons_of_mem _ hy)]
end PM
/-! The search of full plans, walked. -/
namespace PM
open PySem DL PySem.W
abbrev Nd := List T3 × List P2
def eN (x : Nd) : PyData := .tuple [eP x.1, .list (x.2.map eQ)]
def childOk (left : List P2) (a b c : Nat) : Bool := (!Nat.beq c a && !Nat.beq c b) && (prs (sort3 a b c)).all fun q => qmem q left
def child (h : List T3) (left : List P2) (t : T3) : Nd := (h ++ [t], left.filter fun q => !qmem q (prs t))
theorem notIn_pair (k a b : Nat) : notInP (.int (k : Int)) (.tuple [.int (a : Int), .int (b : Int)]) = some (!Nat.beq k a && !Nat.beq k b) := by
  rw [notInP_t, if_pos (dok_I _)]
  simp only [List.any_cons, List.any_nil, Bool.or_false, eqv_int]
  have h : ∀ a : Nat, decide ((a : Int) = k) = Nat.beq k a := fun a => by
    cases h : Nat.beq k a with
    | true => exact decide_eq_true (by rw [Nat.eq_of_beq_eq_true h])
    | false => exact decide_eq_false (by have := Nat.ne_of_beq_eq_false h; omega)
  rw [h, h, Bool.not_or]
theorem ev_push (n : Nat) (pl : PyData) (found : List PyData) (h : List T3) (left : List P2) (a b : Nat) (hn : n ≤ 9) (hl : left.length ≤ 100) (hh : h.length ≤ 100) (acc : List PyData) (hacc : acc.length + 100 ≤ LIM) (c8 c9 : Option Cell) (S : Sto) :
    ∃ c8' c9', sFor (itR1 (aCons (eVar 0) aNil)) (.one 8) (sSeq (sSet .dat 9 (eBc oTuple (aCons (eBc oSort (aCons (eLst (aCons (eVar 6) (aCons (eVar 7) (aCons (eVar 8) aNil)))) aNil)) aNil)))
      (sSeq (sIf (tAndS (tOf (eOp (cD notInP) (eVar 8) (eTup (aCons (eVar 6) (aCons (eVar 7) aNil))))) (tOf (eBc oAll (aCons (eLc (itSeq (eCall m_pairs_of 1 (aCons (eVar 9) aNil))) [10] (.one 10) tTrue (eOp (cD inP) (eVar 10) (eVar 5))) aNil)))) (sSeq (sApp 3 (eTup (aCons (eOp oAdd (eVar 4) (eTup (aCons (eVar 9) aNil))) (aCons (eLc (itSeq (eVar 5)) [10] (.one 10) (tOf (eOp (cD notInP) (eVar 10) (eCall m_pairs_of 1 (aCons (eVar 9) aNil)))) (eVar 10)) aNil)))) sNil) sNil) sNil))
      [some (.u (.d (.int n))), some (.u (.d pl)), some (.own found), some (.own acc), some (.u (.d (eP h))), some (.u (.d (.list (left.map eQ)))), some (.u (.d (eI a))), some (.u (.d (eI b))), c8, c9, none] S
      = some (.nx, [some (.u (.d (.int n))), some (.u (.d pl)), some (.own found), some (.own (acc ++ ((List.range n).flatMap fun c => if childOk left a b c = true then [eN (child h left (sort3 a b c))] else []))), some (.u (.d (eP h))), some (.u (.d (.list (left.map eQ)))), some (.u (.d (eI a))), some (.u (.d (eI b))), c8', c9', none], S) := by
  have hL : LIM = 1000000 := rfl
  have hlen : ((List.range n).flatMap fun c => if childOk left a b c = true then [eN (child h left (sort3 a b c))] else []).length ≤ 1 * n := by
    have := flat_len (fun c => if childOk left a b c = true then [eN (child h left (sort3 a b c))] else []) 1 (List.range n) (fun c _ => by split <;> simp)
    simpa using this
  obtain ⟨⟨c8', c9'⟩, e⟩ := for_acc (tg := .one 8) (S := S) (body := sSeq (sSet .dat 9 (eBc oTuple (aCons (eBc oSort (aCons (eLst (aCons (eVar 6) (aCons (eVar 7) (aCons (eVar 8) aNil)))) aNil)) aNil)))
      (sSeq (sIf (tAndS (tOf (eOp (cD notInP) (eVar 8) (eTup (aCons (eVar 6) (aCons (eVar 7) aNil))))) (tOf (eBc oAll (aCons (eLc (itSeq (eCall m_pairs_of 1 (aCons (eVar 9) aNil))) [10] (.one 10) tTrue (eOp (cD inP) (eVar 10) (eVar 5))) aNil)))) (sSeq (sApp 3 (eTup (aCons (eOp oAdd (eVar 4) (eTup (aCons (eVar 9) aNil))) (aCons (eLc (itSeq (eVar 5)) [10] (.one 10) (tOf (eOp (cD notInP) (eVar 10) (eCall m_pairs_of 1 (aCons (eVar 9) aNil)))) (eVar 10)) aNil)))) sNil) sNil) sNil))
    (fun acc (c : Option Cell × Option Cell) => [some (.u (.d (.int n))), some (.u (.d pl)), some (.own found), some (.own acc), some (.u (.d (eP h))), some (.u (.d (.list (left.map eQ)))), some (.u (.d (eI a))), some (.u (.d (eI b))), c.1, c.2, none])
    eI (fun c => if childOk left a b c = true then [eN (child h left (sort3 a b c))] else []) LIM (List.range n) acc (c8, c9) (by omega) (fun acc c k hk hb => by
      refine ⟨[(8, eI k)], (some (.u (.d (eI k))), some (.u (.d (eT (sort3 a b k))))), rfl, ?_⟩
      have hsd : setD [some (.u (.d (.int n))), some (.u (.d pl)), some (.own found), some (.own acc), some (.u (.d (eP h))), some (.u (.d (.list (left.map eQ)))), some (.u (.d (eI a))), some (.u (.d (eI b))), c.1, c.2, none] [(8, eI k)] = [some (.u (.d (.int n))), some (.u (.d pl)), some (.own found), some (.own acc), some (.u (.d (eP h))), some (.u (.d (.list (left.map eQ)))), some (.u (.d (eI a))), some (.u (.d (eI b))), some (.u (.d (eI k))), c.2, none] := rfl
      rw [hsd]
      refine seq_to (δ1 := [some (.u (.d (.int n))), some (.u (.d pl)), some (.own found), some (.own acc), some (.u (.d (eP h))), some (.u (.d (.list (left.map eQ)))), some (.u (.d (eI a))), some (.u (.d (eI b))), some (.u (.d (eI k))), some (.u (.d (eT (sort3 a b k)))), none]) (S1 := S) ?_ ?_
      · have := oSort_I [a, b, k] (by simp [LIM])
        have e3 := tup3 a b k
        simp only [List.map_cons, List.map_nil] at this
        simp [this, ← e3]
      · generalize ht : sort3 a b k = t at hb ⊢
        have hlc : eLc (itSeq (eCall m_pairs_of 1 (aCons (eVar 9) aNil))) [10] (.one 10) tTrue (eOp (cD inP) (eVar 10) (eVar 5)) [some (.u (.d (.int n))), some (.u (.d pl)), some (.u (.d (.list found))), some (.u (.d (.list acc))), some (.u (.d (eP h))), some (.u (.d (.list (left.map eQ)))), some (.u (.d (eI a))), some (.u (.d (eI b))), some (.u (.d (eI k))), some (.u (.d (eT t))), none] S = some (.ok (.d (.list ((prs t).map fun q => .bool (qmem q left)))), S) := by
          refine lc_map eQ (prs t) (fun q => .bool (qmem q left)) ?_ (by simp [prs, LIM]) (fun q hq => ⟨[(10, eQ q)], rfl, ?_⟩)
          · simp [ev_pairs_of]
          · simp [setD, inP_list eqe_Q left q (dok_Q q), qmem_eq]
        have hlc2 : eLc (itSeq (eVar 5)) [10] (.one 10) (tOf (eOp (cD notInP) (eVar 10) (eCall m_pairs_of 1 (aCons (eVar 9) aNil)))) (eVar 10) [some (.u (.d (.int n))), some (.u (.d pl)), some (.own found), some (.own acc), some (.u (.d (eP h))), some (.u (.d (.list (left.map eQ)))), some (.u (.d (eI a))), some (.u (.d (eI b))), some (.u (.d (eI k))), some (.u (.d (eT t))), none] S = some (.ok (.d (.list ((left.filter fun q => !qmem q (prs t)).map eQ))), S) := by
          refine lc_if eQ left (fun q => !qmem q (prs t)) eQ rfl (by omega) (fun q hq => ⟨[(10, eQ q)], rfl, ?_, fun _ => ?_⟩)
          · simp [setD, ev_pairs_of, notInP_list eqe_Q (prs t) q (dok_Q q), qmem_eq]
          · simp [setD]
        have hc1 : tAndS (tOf (eOp (cD notInP) (eVar 8) (eTup (aCons (eVar 6) (aCons (eVar 7) aNil))))) (tOf (eBc oAll (aCons (eLc (itSeq (eCall m_pairs_of 1 (aCons (eVar 9) aNil))) [10] (.one 10) tTrue (eOp (cD inP) (eVar 10) (eVar 5))) aNil))) [some (.u (.d (.int n))), some (.u (.d pl)), some (.u (.d (.list found))), some (.u (.d (.list acc))), some (.u (.d (eP h))), some (.u (.d (.list (left.map eQ)))), some (.u (.d (eI a))), some (.u (.d (eI b))), some (.u (.d (eI k))), some (.u (.d (eT t))), none] S = some (.ok ((!Nat.beq k a && !Nat.beq k b) && (prs t).all fun q => qmem q left), S) := by
          have hnp : notInP (eI k) (.tuple [eI a, eI b]) = some (!Nat.beq k a && !Nat.beq k b) := notIn_pair k a b
          simp only [ap_tAndS, ap_tOf, ap_eOp, ap_eTup, ap_aCons, ap_aNil, ap_eVar, List.getElem?_cons_succ, List.getElem?_cons_zero, bnd_ok, allD, List.length_cons, List.length_nil, cD, Nat.reduceAdd, Nat.reduceLeDiff, if_true, hnp, ap_eBc, hlc]
          cases (!Nat.beq k a && !Nat.beq k b) with
          | false => simp
          | true => simp [oAll_map]
        rw [ap_sSeq, ap_sIf]
        have hbr : bor [some (.u (.d (.int n))), some (.u (.d pl)), some (.own found), some (.own acc), some (.u (.d (eP h))), some (.u (.d (.list (left.map eQ)))), some (.u (.d (eI a))), some (.u (.d (eI b))), some (.u (.d (eI k))), some (.u (.d (eT t))), none] = [some (.u (.d (.int n))), some (.u (.d pl)), some (.u (.d (.list found))), some (.u (.d (.list acc))), some (.u (.d (eP h))), some (.u (.d (.list (left.map eQ)))), some (.u (.d (eI a))), some (.u (.d (eI b))), some (.u (.d (eI k))), some (.u (.d (eT t))), none] := rfl
        rw [hbr, hc1]
        have hco : childOk left a b k = ((!Nat.beq k a && !Nat.beq k b) && (prs t).all fun q => qmem q left) := by unfold childOk; rw [ht]
        rw [hco] at hb ⊢
        cases hp : ((!Nat.beq k a && !Nat.beq k b) && (prs t).all fun q => qmem q left) with
        | false => simp
        | true =>
          rw [hp] at hb
          have hb' : acc.length < LIM := by simp at hb; omega
          have hh' : h.length + 1 ≤ LIM := by omega
          have hadd : oAdd (.d (eP h)) (.d (.tuple [eT t])) = some (.d (eP (h ++ [t]))) := by
            show (if (h.map eT).length + [eT t].length ≤ LIM then some (U.d (.tuple (h.map eT ++ [eT t]))) else none) = _
            rw [if_pos (by rw [List.length_map]; exact hh')]
            simp [eP]
          simp [hlc2, hadd, hb', -sp_oAdd3, eN, child])
  refine ⟨c8', c9', sFor_of (items := (List.range n).map eI) ?_ e⟩
  have := ints_range n
  simp at this
  simp [this]
  omega
end PM
/-! The search of full plans, walked to its end. -/
namespace PM
open PySem DL PySem.W
def fpBody : SemS := sSeq (sPop 3 (.tup [4, 5])) (sSeq (sIf (tOf (eOp (cD eqP) (eVar 5) (eLst aNil))) (sSeq (sApp 2 (eVar 4)) sNil) (sSeq (sUnp (.tup [6, 7]) (eOp oIx (eVar 5) (eC (.int 0))))
  (sSeq (sFor (itR1 (aCons (eVar 0) aNil)) (.one 8) (sSeq (sSet .dat 9 (eBc oTuple (aCons (eBc oSort (aCons (eLst (aCons (eVar 6) (aCons (eVar 7) (aCons (eVar 8) aNil)))) aNil)) aNil)))
      (sSeq (sIf (tAndS (tOf (eOp (cD notInP) (eVar 8) (eTup (aCons (eVar 6) (aCons (eVar 7) aNil))))) (tOf (eBc oAll (aCons (eLc (itSeq (eCall m_pairs_of 1 (aCons (eVar 9) aNil))) [10] (.one 10) tTrue (eOp (cD inP) (eVar 10) (eVar 5))) aNil)))) (sSeq (sApp 3 (eTup (aCons (eOp oAdd (eVar 4) (eTup (aCons (eVar 9) aNil))) (aCons (eLc (itSeq (eVar 5)) [10] (.one 10) (tOf (eOp (cD notInP) (eVar 10) (eCall m_pairs_of 1 (aCons (eVar 9) aNil)))) (eVar 10)) aNil)))) sNil) sNil) sNil))) sNil))) sNil)
abbrev C6 := Option Cell × Option Cell × Option Cell × Option Cell × Option Cell × Option Cell
def fE (n : Nat) (pl : PyData) (found line : List PyData) (c : C6) : En := [some (.u (.d (.int n))), some (.u (.d pl)), some (.own found), some (.own line), c.1, c.2.1, c.2.2.1, c.2.2.2.1, c.2.2.2.2.1, c.2.2.2.2.2, none]
theorem pop_last {α : Type} (l : List α) (x : α) : (l ++ [x])[(l ++ [x]).length - 1]? = some x := by simp
theorem ev_pop (n : Nat) (pl : PyData) (found ln : List PyData) (x : Nd) (c : C6) (S : Sto) : sPop 3 (.tup [4, 5]) (fE n pl found (ln ++ [eN x]) c) S = some (.nx, fE n pl found ln (some (.u (.d (eP x.1))), some (.u (.d (.list (x.2.map eQ)))), c.2.2), S) := by
  rw [ap_sPop]
  simp only [fE, List.getElem?_cons_succ, List.getElem?_cons_zero, pop_last]
  simp [Tg.split, eN, setD, fE]
theorem it_leaf (n : Nat) (pl : PyData) (found ln : List PyData) (h : List T3) (c : C6) (S : Sto) (hf : found.length < LIM) : ∃ c', fpBody (fE n pl found (ln ++ [eN (h, [])]) c) S = some (.nx, fE n pl (found ++ [eP h]) ln c', S) := by
  refine ⟨(some (.u (.d (eP h))), some (.u (.d (.list []))), c.2.2), ?_⟩
  unfold fpBody
  refine seq_to (ev_pop n pl found ln (h, []) c S) ?_
  have e1 : eqP (.list []) (.list []) = some true := rfl
  have hb : bor (fE n pl found ln (some (.u (.d (eP h))), some (.u (.d (.list []))), c.2.2)) = [some (.u (.d (.int n))), some (.u (.d pl)), some (.u (.d (.list found))), some (.u (.d (.list ln))), some (.u (.d (eP h))), some (.u (.d (.list []))), Option.map borC c.2.2.1, Option.map borC c.2.2.2.1, Option.map borC c.2.2.2.2.1, Option.map borC c.2.2.2.2.2, none] := rfl
  simp only [List.map_nil]
  rw [ap_sSeq, ap_sIf, hb]
  simp [e1, fE, hf]
theorem it_node (n : Nat) (hn : n ≤ 9) (pl : PyData) (found ln : List PyData) (h : List T3) (a b : Nat) (r : List P2) (c : C6) (S : Sto) (hl : r.length ≤ 99) (hh : h.length ≤ 100) (hln : ln.length + 100 ≤ LIM) :
    ∃ c', fpBody (fE n pl found (ln ++ [eN (h, (a, b) :: r)]) c) S = some (.nx, fE n pl found (ln ++ ((List.range n).flatMap fun k => if childOk ((a, b) :: r) a b k = true then [eN (child h ((a, b) :: r) (sort3 a b k))] else [])) c', S) := by
  obtain ⟨c8', c9', e⟩ := ev_push n pl found h ((a, b) :: r) a b hn (by simp only [List.length_cons]; omega) hh ln hln c.2.2.2.2.1 c.2.2.2.2.2 S
  refine ⟨(some (.u (.d (eP h))), some (.u (.d (.list (((a, b) :: r).map eQ)))), some (.u (.d (eI a))), some (.u (.d (eI b))), c8', c9'), ?_⟩
  unfold fpBody
  refine seq_to (ev_pop n pl found ln (h, (a, b) :: r) c S) ?_
  have e1 : eqP (.list (((a, b) :: r).map eQ)) (.list []) = some false := by rw [eq_nil]; rfl
  have hb : bor (fE n pl found ln (some (.u (.d (eP h))), some (.u (.d (.list (((a, b) :: r).map eQ)))), c.2.2)) = [some (.u (.d (.int n))), some (.u (.d pl)), some (.u (.d (.list found))), some (.u (.d (.list ln))), some (.u (.d (eP h))), some (.u (.d (.list (((a, b) :: r).map eQ)))), Option.map borC c.2.2.1, Option.map borC c.2.2.2.1, Option.map borC c.2.2.2.2.1, Option.map borC c.2.2.2.2.2, none] := rfl
  have ec : tOf (eOp (cD eqP) (eVar 5) (eLst aNil)) (bor (fE n pl found ln (some (.u (.d (eP h))), some (.u (.d (.list (((a, b) :: r).map eQ)))), c.2.2))) S = some (.ok false, S) := by
    rw [hb]
    simp only [ap_tOf, ap_eOp, ap_eVar, List.getElem?_cons_succ, List.getElem?_cons_zero, bnd_ok, ap_eLst, ap_aNil, allD, List.length_nil, Nat.zero_le, if_true, cD, e1]
  rw [ap_sSeq, ap_sIf]
  simp only []
  rw [ec]
  simp only []
  have eu : sUnp (.tup [6, 7]) (eOp oIx (eVar 5) (eC (.int 0))) (fE n pl found ln (some (.u (.d (eP h))), some (.u (.d (.list (((a, b) :: r).map eQ)))), c.2.2)) S = some (.nx, [some (.u (.d (.int n))), some (.u (.d pl)), some (.own found), some (.own ln), some (.u (.d (eP h))), some (.u (.d (.list (((a, b) :: r).map eQ)))), some (.u (.d (eI a))), some (.u (.d (eI b))), c.2.2.2.2.1, c.2.2.2.2.2, none], S) := by
    rw [ap_sUnp]
    simp [fE, L2.atI, L2.ixN, Tg.split, eQ, setD, eI]
  rw [seq_to eu (seq_to e rfl)]
  rfl
/-- the weight of a line -/
def wt (st : List Nd) : Nat := (st.map fun x => 10 ^ x.2.length).sum
def JS (K : Nat) : List Nd → Prop
  | [] => True
  | x :: st => x.2.length ≤ K ∧ (x :: st).length ≤ 10 + 9 * (K - x.2.length) ∧ JS K st
def fpN (n : Nat) (x : Nd) : List (List T3) := fp n x.2.length x.1 x.2
structure NdOk (n : Nat) (x : Nd) : Prop where
  g : Good n x.1
  l : x.2 = leftOf n x.1
theorem fp_fuel {n : Nat} : ∀ (k : Nat) (h : List T3) (left : List P2), left = leftOf n h → Good n h → left.length ≤ k → fp n k h left = fp n left.length h left
  | k, h, [], _, _, _ => by cases k <;> rfl
  | 0, h, _ :: _, _, _, hk => absurd hk (by simp)
  | k + 1, h, (a, b) :: r, hl, g, hk => by
    show (kids n ((a, b) :: r)).reverse.flatMap (fun t => fp n k (h ++ [t]) (((a, b) :: r).filter fun q => !qmem q (prs t))) = (kids n ((a, b) :: r)).reverse.flatMap (fun t => fp n r.length (h ++ [t]) (((a, b) :: r).filter fun q => !qmem q (prs t)))
    refine flat_congr fun t ht => ?_
    obtain ⟨g', hp⟩ := kid_ok hl.symm g (List.mem_reverse.mp ht)
    have hlen : (((a, b) :: r).filter fun q => !qmem q (prs t)).length ≤ r.length := by
      have : (!qmem (a, b) (prs t)) = false := by rw [qmem_iff.mpr hp]; rfl
      rw [List.filter_cons_of_neg (by rw [this]; exact Bool.false_ne_true)]
      exact List.length_filter_le _ _
    simp only [List.length_cons] at hk
    have e := left_append n h t
    rw [← hl] at e
    rw [fp_fuel k _ _ e.symm g' (by omega), fp_fuel r.length _ _ e.symm g' hlen]
end PM
/-! The search of full plans: what it returns. -/
namespace PM
open PySem DL PySem.W
theorem push_kids (n : Nat) (h : List T3) (a b : Nat) (r : List P2) : ((List.range n).flatMap fun k => if childOk ((a, b) :: r) a b k = true then [eN (child h ((a, b) :: r) (sort3 a b k))] else []) = ((kids n ((a, b) :: r)).map (child h ((a, b) :: r))).map eN := by
  unfold kids
  rw [List.map_flatMap, List.map_flatMap]
  refine flat_congr fun k _ => ?_
  unfold childOk
  split <;> simp
theorem kids_len (n : Nat) (p : P2) (r : List P2) : (kids n (p :: r)).length ≤ n := by
  obtain ⟨a, b⟩ := p
  unfold kids
  have := flat_len (fun c => if ((!Nat.beq c a && !Nat.beq c b) && (prs (sort3 a b c)).all fun q => qmem q ((a, b) :: r)) = true then [sort3 a b c] else []) 1 (List.range n) (fun c _ => by split <;> simp)
  simpa using this
theorem wt_le (m : Nat) : ∀ l : List Nd, (∀ x ∈ l, x.2.length ≤ m) → wt l ≤ l.length * 10 ^ m
  | [], _ => Nat.zero_le _
  | x :: l, h => by
    have ih := wt_le m l fun y hy => h y (List.mem_cons_of_mem _ hy)
    have h1 : 10 ^ x.2.length ≤ 10 ^ m := Nat.pow_le_pow_right (by decide) (h x List.mem_cons_self)
    unfold wt at *
    rw [List.map_cons, List.sum_cons, List.length_cons, Nat.add_mul, Nat.one_mul]
    omega
theorem wt_app (l m : List Nd) : wt (l ++ m) = wt l + wt m := by
  unfold wt
  rw [List.map_append, List.sum_append]
theorem js_push {K m : Nat} : ∀ (l st : List Nd), (∀ x ∈ l, x.2.length ≤ m) → m < K → JS K st → l.length + st.length ≤ 10 + 9 * (K - m) → JS K (l ++ st)
  | [], st, _, _, h, _ => h
  | x :: l, st, hx, hm, h, hl => by
    have h1 := hx x List.mem_cons_self
    refine ⟨by omega, ?_, js_push l st (fun y hy => hx y (List.mem_cons_of_mem _ hy)) hm h (by simp only [List.length_cons] at hl; omega)⟩
    show (x :: (l ++ st)).length ≤ _
    rw [List.length_cons] at hl
    rw [List.length_cons, List.length_append]
    omega
theorem fp_loop (n : Nat) (hn : n ≤ 9) (pl : PyData) (S : Sto) : ∀ (fuel : Nat) (st : List Nd) (found : List PyData) (c : C6), wt st < fuel → (∀ x ∈ st, NdOk n x) → JS 36 st → found.length + (st.flatMap (fpN n)).length < LIM →
    ∃ c', whGo (tOf (eOp (cD neP) (eVar 3) (eLst aNil))) fpBody fuel (fE n pl found (st.reverse.map eN) c) S = some (.nx, fE n pl (found ++ (st.flatMap (fpN n)).map eP) [] c', S)
  | 0, _, _, _, h, _, _, _ => absurd h (Nat.not_lt_zero _)
  | fuel + 1, [], found, c, _, _, _, _ => by
    refine ⟨c, ?_⟩
    unfold whGo
    have hb : bor (fE n pl found [] c) = [some (.u (.d (.int n))), some (.u (.d pl)), some (.u (.d (.list found))), some (.u (.d (.list []))), Option.map borC c.1, Option.map borC c.2.1, Option.map borC c.2.2.1, Option.map borC c.2.2.2.1, Option.map borC c.2.2.2.2.1, Option.map borC c.2.2.2.2.2, none] := rfl
    have e0 : neP (.list []) (.list []) = some false := rfl
    simp only [List.reverse_nil, List.map_nil, hb, ap_tOf, ap_eOp, ap_eVar, List.getElem?_cons_succ, List.getElem?_cons_zero, bnd_ok, ap_eLst, ap_aNil, allD, List.length_nil, Nat.zero_le, if_true, cD, e0, List.flatMap_nil, List.append_nil]
  | fuel + 1, x :: st, found, c, hw, hok, hj, hl => by
    have hL : LIM = 1000000 := rfl
    obtain ⟨h, left⟩ := x
    have ok := hok (h, left) List.mem_cons_self
    obtain ⟨j1, j2, j3⟩ := hj
    simp only [List.length_cons] at j1 j2
    have hrev : ((h, left) :: st).reverse.map eN = st.reverse.map eN ++ [eN (h, left)] := by simp
    have hb : bor (fE n pl found (st.reverse.map eN ++ [eN (h, left)]) c) = [some (.u (.d (.int n))), some (.u (.d pl)), some (.u (.d (.list found))), some (.u (.d (.list (st.reverse.map eN ++ [eN (h, left)])))), Option.map borC c.1, Option.map borC c.2.1, Option.map borC c.2.2.1, Option.map borC c.2.2.2.1, Option.map borC c.2.2.2.2.1, Option.map borC c.2.2.2.2.2, none] := rfl
    have e0 : neP (.list (st.reverse.map eN ++ [eN (h, left)])) (.list []) = some true := by
      have := ne_nil eN (st.reverse ++ [(h, left)])
      rw [List.map_append] at this
      rw [show st.reverse.map eN ++ [eN (h, left)] = st.reverse.map eN ++ [(h, left)].map eN from rfl, this]
      simp
    have hc : tOf (eOp (cD neP) (eVar 3) (eLst aNil)) (bor (fE n pl found (st.reverse.map eN ++ [eN (h, left)]) c)) S = some (.ok true, S) := by
      simp only [hb, ap_tOf, ap_eOp, ap_eVar, List.getElem?_cons_succ, List.getElem?_cons_zero, bnd_ok, ap_eLst, ap_aNil, allD, List.length_nil, Nat.zero_le, if_true, cD, e0]
    have hw' : 10 ^ left.length + wt st < fuel + 1 := hw
    rw [List.flatMap_cons, List.length_append] at hl
    unfold whGo
    rw [hrev, hc]
    simp only []
    cases left with
    | nil =>
      have ef : fpN n (h, []) = [h] := rfl
      rw [ef] at hl
      obtain ⟨c1, e1⟩ := it_leaf n pl found (st.reverse.map eN) h c S (by simp only [List.length_singleton] at hl; omega)
      rw [e1]
      simp only []
      obtain ⟨c2, e2⟩ := fp_loop n hn pl S fuel st (found ++ [eP h]) c1 (by simp only [List.length_nil, Nat.pow_zero] at hw'; omega) (fun y hy => hok y (List.mem_cons_of_mem _ hy)) j3 (by simp only [List.length_append, List.length_singleton] at hl ⊢; omega)
      refine ⟨c2, ?_⟩
      rw [e2, List.flatMap_cons, ef]
      simp
    | cons q r =>
      obtain ⟨a, b⟩ := q
      simp only [List.length_cons] at j1 j2 hw'
      have gl := full_len hn ok.g
      simp only at gl
      obtain ⟨c1, e1⟩ := it_node n hn pl found (st.reverse.map eN) h a b r c S (by omega) (by omega) (by rw [List.length_map, List.length_reverse]; omega)
      rw [e1, push_kids]
      simp only []
      have okl : (a, b) :: r = leftOf n h := ok.l
      have kp : ∀ t ∈ kids n ((a, b) :: r), Good n (h ++ [t]) ∧ (a, b) ∈ prs t := fun t ht => kid_ok okl.symm ok.g ht
      have clen : ∀ t ∈ kids n ((a, b) :: r), (child h ((a, b) :: r) t).2.length ≤ r.length := fun t ht => by
        have : (!qmem (a, b) (prs t)) = false := by rw [qmem_iff.mpr (kp t ht).2]; rfl
        show (((a, b) :: r).filter fun q => !qmem q (prs t)).length ≤ r.length
        rw [List.filter_cons_of_neg (by rw [this]; exact Bool.false_ne_true)]
        exact List.length_filter_le _ _
      have cok : ∀ t ∈ kids n ((a, b) :: r), NdOk n (child h ((a, b) :: r) t) := fun t ht => ⟨(kp t ht).1, by
        show (((a, b) :: r).filter fun q => !qmem q (prs t)) = leftOf n (h ++ [t])
        rw [left_append, okl]⟩
      have efp : ((kids n ((a, b) :: r)).map (child h ((a, b) :: r))).reverse.flatMap (fpN n) = fpN n (h, (a, b) :: r) := by
        rw [← List.map_reverse, flatMap_map']
        show _ = (kids n ((a, b) :: r)).reverse.flatMap (fun t => fp n r.length (h ++ [t]) (((a, b) :: r).filter fun q => !qmem q (prs t)))
        refine flat_congr fun t ht => ?_
        have ht' := List.mem_reverse.mp ht
        exact (fp_fuel r.length _ _ (cok t ht').l (cok t ht').g (clen t ht')).symm
      have hkl := kids_len n (a, b) r
      have mem' : ∀ y ∈ ((kids n ((a, b) :: r)).map (child h ((a, b) :: r))).reverse, ∃ t ∈ kids n ((a, b) :: r), child h ((a, b) :: r) t = y := fun y hy => List.mem_map.mp (List.mem_reverse.mp hy)
      have hw2 : wt (((kids n ((a, b) :: r)).map (child h ((a, b) :: r))).reverse ++ st) < fuel := by
        rw [wt_app]
        have := wt_le r.length (((kids n ((a, b) :: r)).map (child h ((a, b) :: r))).reverse) (fun y hy => by
          obtain ⟨t, ht, rfl⟩ := mem' y hy
          exact clen t ht)
        rw [List.length_reverse, List.length_map] at this
        have h9 : (kids n ((a, b) :: r)).length * 10 ^ r.length ≤ 9 * 10 ^ r.length := Nat.mul_le_mul_right _ (by omega)
        have hp : 10 ^ (r.length + 1) = 10 * 10 ^ r.length := by rw [Nat.pow_succ, Nat.mul_comm]
        have hpos : 0 < 10 ^ r.length := Nat.pow_pos (by decide)
        rw [hp] at hw'
        omega
      obtain ⟨c2, e2⟩ := fp_loop n hn pl S fuel (((kids n ((a, b) :: r)).map (child h ((a, b) :: r))).reverse ++ st) found c1 hw2 (fun y hy => by
        rcases List.mem_append.mp hy with z | z
        · obtain ⟨t, ht, rfl⟩ := mem' y z
          exact cok t ht
        · exact hok y (List.mem_cons_of_mem _ z)) (js_push (m := r.length) _ _ (fun y hy => by
          obtain ⟨t, ht, rfl⟩ := mem' y hy
          exact clen t ht) (by omega) j3 (by rw [List.length_reverse, List.length_map]; omega)) (by rw [List.flatMap_append, efp, List.length_append]; omega)
      refine ⟨c2, ?_⟩
      rw [List.flatMap_append, efp] at e2
      rw [List.flatMap_cons, ← e2]
      simp
theorem full_few {n : Nat} (hn : n ≤ 9) {l : List T3} (hl : Good n l) : (fullPlans n l).length ≤ 840 := by
  rw [full_count hl]
  refine Nat.le_trans (List.length_filter_le _ _) ?_
  have h := nodup_len (full_nodup (good_nil n)) (m := (srch n (allPairs n) 0 1).map fun c => decP 20 c []) fun p hp => by
    obtain ⟨c, hc, e⟩ := full_code hn hp
    exact List.mem_map.mpr ⟨c, hc, e⟩
  rw [List.length_map] at h
  have h2 : (srch n (allPairs n) 0 1).length ≤ 840 := by
    by_cases h9 : n = 9
    · subst h9
      rw [srch9]
      decide +kernel
    · exact (show ∀ n < 9, (srch n (allPairs n) 0 1).length ≤ 840 by decide +kernel) n (by omega)
  omega
theorem ev_full_plans (n : Nat) (hn : 3 ≤ n ∧ n ≤ 9) (l : List T3) (g : Good n l) (S : Sto) : m_full_plans [.d (.int n), .d (eP l)] S = some (.ok (.d (.list ((fullPlans n l).map eP))), S) := by
  have hL : LIM = 1000000 := rfl
  have hlen := full_len hn.2 g
  have hleft : (leftOf n l).length ≤ 36 := by
    have h2 : (allPairs n).length ≤ 36 := (show ∀ n ≤ 9, (allPairs n).length ≤ 36 by decide +kernel) n hn.2
    exact Nat.le_trans (List.length_filter_le _ _) h2
  have hfew := full_few hn.2 g
  have hfl : ((fp n (leftOf n l).length l (leftOf n l))).length ≤ 840 := by
    have : (fullPlans n l).length = (fp n (leftOf n l).length l (leftOf n l)).length := by unfold fullPlans; rw [List.length_map]
    omega
  obtain ⟨c', e⟩ := fp_loop n hn.2 (eP l) S (10 ^ 40) [(l, leftOf n l)] [] (none, none, none, none, none, none) (by
      show 10 ^ (leftOf n l).length + 0 < 10 ^ 40
      exact Nat.pow_lt_pow_right (by decide) (by omega)) (fun x hx => by
      rw [List.mem_singleton.mp hx]
      exact ⟨g, rfl⟩) ⟨hleft, by simp only [List.length_singleton]; omega, trivial⟩ (by
      simp only [List.flatMap_cons, List.flatMap_nil, List.append_nil, List.length_nil]
      show 0 + (fp n (leftOf n l).length l (leftOf n l)).length < LIM
      omega)
  have ef : [(l, leftOf n l)].flatMap (fpN n) = fp n (leftOf n l).length l (leftOf n l) := by simp [fpN]
  rw [ef] at e
  unfold m_full_plans
  refine fn_rt (δ1 := fE n (eP l) ([] ++ (fp n (leftOf n l).length l (leftOf n l)).map eP) [] c') ?_
  refine seq_to (δ1 := fE n (eP l) [] [eN (l, leftOf n l)] (none, none, none, none, none, none)) (S1 := S) ?_ (seq_to e ?_)
  · simp [ev_left_of n (by omega) l (by omega), fE, eN]
  · have el : eLc (itSeq (eVar 2)) [6] (.one 6) tTrue (eBc oTuple (aCons (eBc oSort (aCons (eVar 6) aNil)) aNil)) (bor (fE n (eP l) ([] ++ (fp n (leftOf n l).length l (leftOf n l)).map eP) [] c')) S = some (.ok (.d (.list ((fp n (leftOf n l).length l (leftOf n l)).map fun q => eP (sortT q)))), S) := by
      refine lc_map eP (fp n (leftOf n l).length l (leftOf n l)) (fun q => eP (sortT q)) rfl (by omega) (fun q hq => ⟨[(6, eP q)], rfl, ?_⟩)
      have gq := (fp_sound _ l _ q rfl g hq).1
      have hs := oSort_Tt q (by have := full_len hn.2 gq; omega)
      have h6 : eVar 6 (setD (wipeE (bor (fE n (eP l) ([] ++ (fp n (leftOf n l).length l (leftOf n l)).map eP) [] c')) [6]) [(6, eP q)]) S = some (.ok (.d (eP q)), S) := rfl
      simp only [ap_eBc, ap_aCons, ap_aNil, h6, bnd_ok]
      unfold eP
      rw [hs]
      rfl
    rw [ap_sSeq, ap_sRet, el]
    unfold fullPlans
    simp [Function.comp_def]
theorem ev_count_full (n : Nat) (hn : 3 ≤ n ∧ n ≤ 9) (l : List T3) (hs : standsB n l = true) (S : Sto) : m_count_full [.d (.int n), .d (eP l)] S = some (.ok (.d (.int ((fullPlans n l).length : Nat))), S) := by
  have g := (stands_iff.mp hs).1
  have hl := full_len hn.2 g
  unfold m_count_full
  simp [ev_check_plan n hn l hl, hs, ev_full_plans n hn l g]
end PM
/-! The typed layer: renamed. -/
namespace PM
open PySem DL PySem.W
theorem leN_trans (a b c : Nat) (h1 : leN a b = true) (h2 : leN b c = true) : leN a c = true := by
  unfold leN at *
  rw [decide_eq_true_iff] at *
  omega
theorem leN_total (a b : Nat) : (leN a b || leN b a) = true := by
  unfold leN
  rw [Bool.or_eq_true, decide_eq_true_iff, decide_eq_true_iff]
  omega
theorem leN_anti (a b : Nat) (h1 : leN a b = true) (h2 : leN b a = true) : a = b := by
  unfold leN at *
  rw [decide_eq_true_iff] at *
  omega
theorem Names.sorted {n : Nat} {names : List Nat} (h : Names n names) : isort leN names = List.range n :=
  isort_eq leN_trans leN_total leN_anti h.perm (List.pairwise_lt_range.imp fun h => by unfold leN; rw [decide_eq_true_iff]; omega)
end PM
/-! Other names do not change how many full plans contain a plan. -/
namespace PM
open PySem DL PySem.W
end PM
/-! All threes; open threes; counting in two ways. -/
namespace PM
open PySem DL PySem.W
def threesL (n : Nat) : List T3 := (allPairs n).flatMap fun p => (upTo (p.2 + 1) n).map fun c => (p.1, p.2, c)
theorem filter_flat {α β : Type} (p : β → Bool) (f : α → List β) : ∀ l : List α, (l.flatMap f).filter p = l.flatMap fun x => (f x).filter p
  | [] => rfl
  | x :: l => by rw [List.flatMap_cons, List.flatMap_cons, List.filter_append, filter_flat p f l]
theorem openL_eq (n : Nat) (l : List T3) : openL n l = (threesL n).filter fun t => (prs t).all fun q => decide (q ∈ leftOf n l) := by
  unfold openL threesL
  rw [filter_flat]
theorem mem_threes {n : Nat} {t : T3} : t ∈ threesL n ↔ okT n t = true := by
  obtain ⟨a, b, c⟩ := t
  unfold threesL
  rw [okT_iff]
  simp only [List.mem_flatMap, List.mem_map, mem_upTo, mem_allPairs, Prod.exists, Prod.mk.injEq]
  constructor
  · rintro ⟨x, y, ⟨h1, h2⟩, z, ⟨h3, h4⟩, rfl, rfl, rfl⟩
    omega
  · rintro ⟨h1, h2, h3⟩
    exact ⟨a, b, ⟨h1, by omega⟩, c, ⟨by omega, h3⟩, rfl, rfl, rfl⟩
theorem mem_openL {n : Nat} {l : List T3} {t : T3} : t ∈ openL n l ↔ okT n t = true ∧ ∀ q ∈ prs t, q ∈ leftOf n l := by
  rw [openL_eq, List.mem_filter, mem_threes, List.all_eq_true]
  simp only [decide_eq_true_eq]
theorem open_good {n : Nat} {l : List T3} {t : T3} (g : Good n l) (h : t ∈ openL n l) : Good n (l ++ [t]) := by
  obtain ⟨h1, h2⟩ := mem_openL.mp h
  exact good_snoc g h1 fun q hq => (mem_leftOf.mp (h2 q hq)).2
theorem sum_add {α : Type} (f g : α → Nat) : ∀ l : List α, (l.map fun x => f x + g x).sum = (l.map f).sum + (l.map g).sum
  | [] => rfl
  | x :: l => by
    simp only [List.map_cons, List.sum_cons, sum_add f g l]
    omega
theorem sum_if {α : Type} (p : α → Bool) : ∀ l : List α, (l.map fun x => if p x = true then 1 else 0).sum = (l.filter p).length
  | [] => rfl
  | x :: l => by
    rw [List.map_cons, List.sum_cons, sum_if p l]
    cases h : p x with
    | true => rw [if_pos rfl, List.filter_cons_of_pos h, List.length_cons]; omega
    | false => rw [if_neg (by decide), List.filter_cons_of_neg (by rw [h]; decide)]; omega
theorem memT_iff {k : Nat} {t : T3} : memT k t = true ↔ k = t.1 ∨ k = t.2.1 ∨ k = t.2.2 := by
  unfold memT
  rw [Bool.or_eq_true, Bool.or_eq_true, Nat.beq_eq, Nat.beq_eq, Nat.beq_eq]
  omega
/-- a pair of a three: both are players of it -/
theorem pair_mem {n : Nat} {t : T3} (ht : okT n t = true) {a b : Nat} (hab : a ≠ b) : pr2 a b ∈ prs t ↔ memT a t = true ∧ memT b t = true := by
  have h := okT_iff.mp ht
  obtain ⟨x, y, z⟩ := t
  rw [mem_prs, memT_iff, memT_iff]
  simp only at h
  unfold pr2
  simp only [Prod.mk.injEq]
  omega
theorem names_of {n : Nat} {l : List Nat} (nd : l.Nodup) (len : l.length = n) (lt : ∀ x ∈ l, x < n) : Names n l := by
  refine ⟨(List.perm_ext_iff_of_nodup nd List.nodup_range).mpr fun x => ⟨fun hx => List.mem_range.mpr (lt x hx), fun hx => ?_⟩⟩
  refine Classical.byContradiction fun hn => ?_
  have := nodup_len (List.nodup_cons.mpr ⟨hn, nd⟩) (m := List.range n) fun y hy => by
    rcases List.mem_cons.mp hy with rfl | hy
    · exact hx
    · exact List.mem_range.mpr (lt y hy)
  rw [List.length_cons, List.length_range] at this
  omega
end PM
/-! The typed layer: drawn plans, clashes, unmet pairs, errors caught. -/
namespace PM
open PySem DL PySem.W
/-! ### errors caught -/
theorem eqP_int (a b : Int) : eqP (.int a) (.int b) = some (decide (a = b)) := by
  unfold eqP
  rw [if_pos (by rw [dok_I]; rfl), eqv_int]
/-! ### all threes, clashes -/
/-- the players of t that are in s -/
def inn (s t : T3) : List Nat := [t.1, t.2.1, t.2.2].filter fun x => memT x s
def clashB (s t : T3) : Bool := decide (1 < (inn t s).length)
theorem clash_iff {n : Nat} {s t : T3} (hs : okT n s = true) (ht : okT n t = true) : clashB s t = true ↔ ∃ q ∈ prs s, q ∈ prs t := by
  have h := okT_iff.mp hs
  have f : ∀ a b, a < b → ((a, b) ∈ prs t ↔ memT a t = true ∧ memT b t = true) := fun a b hab => by
    rw [← pr2_lt hab]
    exact pair_mem ht (by omega)
  have e : (∃ q ∈ prs s, q ∈ prs t) ↔ ((memT s.1 t = true ∧ memT s.2.1 t = true) ∨ (memT s.1 t = true ∧ memT s.2.2 t = true) ∨ (memT s.2.1 t = true ∧ memT s.2.2 t = true)) := by
    rw [← f _ _ h.1, ← f _ _ (by omega), ← f _ _ h.2.1]
    constructor
    · rintro ⟨q, hq, hq2⟩
      rcases mem_prs.mp hq with rfl | rfl | rfl
      · exact .inl hq2
      · exact .inr (.inl hq2)
      · exact .inr (.inr hq2)
    · rintro (z | z | z)
      · exact ⟨_, mem_prs.mpr (.inl rfl), z⟩
      · exact ⟨_, mem_prs.mpr (.inr (.inl rfl)), z⟩
      · exact ⟨_, mem_prs.mpr (.inr (.inr rfl)), z⟩
  rw [e]
  unfold clashB inn
  cases h1 : memT s.1 t <;> cases h2 : memT s.2.1 t <;> cases h3 : memT s.2.2 t <;> simp [h1, h2, h3]
theorem clash_no {n : Nat} {s t : T3} (hs : okT n s = true) (ht : okT n t = true) : clashB s t = false ↔ ∀ q ∈ prs s, q ∉ prs t := by
  rw [← Bool.not_eq_true, clash_iff hs ht]
  constructor
  · exact fun h q hq hq2 => h ⟨q, hq, hq2⟩
  · exact fun h ⟨q, hq, hq2⟩ => h q hq hq2
/-! ### drawn plans -/
end PM
/-! The typed layer: unmet pairs by the law. -/
namespace PM
open PySem DL PySem.W
end PM
/-! Small things: loops with an invariant, truth values, partners. -/
namespace PM
open PySem DL PySem.W
/-! ### partners by the law -/
/-- the others of a three -/
def oth (p : Nat) (t : T3) : List Nat := [t.1, t.2.1, t.2.2].filter fun x => !Nat.beq x p
theorem beq_ne {x p : Nat} : (!Nat.beq x p) = true ↔ x ≠ p := by
  rw [Bool.not_eq_true']
  constructor
  · rintro h rfl
    simp at h
  · intro h
    cases e : Nat.beq x p with
    | false => rfl
    | true => exact absurd (Nat.eq_of_beq_eq_true e) h
theorem mem_oth {p x : Nat} {t : T3} : x ∈ oth p t ↔ memT x t = true ∧ x ≠ p := by
  unfold oth
  rw [List.mem_filter, memT_iff, beq_ne]
  simp
theorem oth_len {n p : Nat} {t : T3} (ht : okT n t = true) (hp : memT p t = true) : (oth p t).length = 2 ∧ (oth p t).Nodup := by
  have h := okT_iff.mp ht
  rw [memT_iff] at hp
  have nd : [t.1, t.2.1, t.2.2].Nodup := by
    simp only [List.nodup_cons, List.mem_cons, List.not_mem_nil, or_false, not_false_eq_true, List.nodup_nil, and_true]
    omega
  refine ⟨?_, nd.filter _⟩
  unfold oth
  have f : ∀ x, x = p → (!Nat.beq x p) = false := fun x e => by rw [e]; simp
  have g : ∀ x, x ≠ p → (!Nat.beq x p) = true := fun x e => beq_ne.mpr e
  rcases hp with e | e | e
  · simp only [List.filter, f t.1 (by omega), g t.2.1 (by omega), g t.2.2 (by omega), List.length_cons, List.length_nil]
  · simp only [List.filter, g t.1 (by omega), f t.2.1 (by omega), g t.2.2 (by omega), List.length_cons, List.length_nil]
  · simp only [List.filter, g t.1 (by omega), g t.2.1 (by omega), f t.2.2 (by omega), List.length_cons, List.length_nil]
theorem flat_two {α β : Type} (f : α → List β) (k : Nat) : ∀ l : List α, (∀ x ∈ l, (f x).length = k) → (l.flatMap f).length = k * l.length
  | [], _ => rfl
  | x :: l, h => by
    rw [List.flatMap_cons, List.length_append, h x List.mem_cons_self, flat_two f k l fun y hy => h y (List.mem_cons_of_mem _ hy), List.length_cons, Nat.mul_succ]
    omega
theorem partners_len {n : Nat} {l : List T3} (g : Good n l) (p : Nat) : (partnersL n l p).length = 2 * (l.filter (memT p)).length := by
  have hok : ∀ t ∈ l.filter (memT p), okT n t = true ∧ memT p t = true := fun t ht => ⟨g.ok t (List.mem_filter.mp ht).1, (List.mem_filter.mp ht).2⟩
  rw [← flat_two (oth p) 2 (l.filter (memT p)) fun t ht => (oth_len (hok t ht).1 (hok t ht).2).1]
  refine List.Perm.length_eq ((List.perm_ext_iff_of_nodup (List.nodup_range.filter _) ?_).mpr fun x => ?_)
  · refine pw_flat _ (fun t ht => (oth_len (hok t ht).1 (hok t ht).2).2) ?_
    refine (List.Pairwise.and_mem.mp ((good_nodup g).filter (memT p))).imp fun {s t} ⟨hs, ht, hne⟩ a ha b hb e => hne ?_
    subst e
    have h1 := (mem_oth.mp ha)
    have h2 := (mem_oth.mp hb)
    exact share g.nd (List.mem_filter.mp hs).1 (List.mem_filter.mp ht).1 ((pair_mem (hok s hs).1 h1.2).mpr ⟨h1.1, (hok s hs).2⟩) ((pair_mem (hok t ht).1 h2.2).mpr ⟨h2.1, (hok t ht).2⟩)
  · rw [List.mem_filter, decide_eq_true_iff, mem_met, List.mem_flatMap, List.mem_range]
    constructor
    · rintro ⟨hx, t, ht, hq⟩
      have hxp : x ≠ p := fun e => by
        subst e
        have := okT_iff.mp (g.ok t ht)
        rw [Nat.min_self, Nat.max_self] at hq
        rcases mem_prs.mp hq with e | e | e <;> (injection e with e1 e2; omega)
      have := (pair_mem (g.ok t ht) hxp).mp hq
      exact ⟨t, List.mem_filter.mpr ⟨ht, this.2⟩, mem_oth.mpr ⟨this.1, hxp⟩⟩
    · rintro ⟨t, ht, hx⟩
      obtain ⟨h1, h2⟩ := mem_oth.mp hx
      have hto := okT_iff.mp (hok t ht).1
      refine ⟨?_, t, (List.mem_filter.mp ht).1, (pair_mem (hok t ht).1 h2).mpr ⟨h1, (hok t ht).2⟩⟩
      rw [memT_iff] at h1
      omega
/-- the pairs that do not meet, counted -/
theorem left_count {n : Nat} {l : List T3} (g : Good n l) : (leftOf n l).length + 3 * l.length = (allPairs n).length := by
  have h1 : ((allPairs n).filter fun p => decide (p ∈ met l)).length = (met l).length := by
    refine List.Perm.length_eq ((List.perm_ext_iff_of_nodup ?_ g.nd).mpr fun q => ?_)
    · exact ((allPairs_pw n).imp fun {p q} h e => by subst e; unfold ltQ at h; omega).filter _
    · rw [List.mem_filter, decide_eq_true_iff]
      refine ⟨fun h => h.2, fun h => ⟨?_, h⟩⟩
      obtain ⟨t, ht, hq⟩ := mem_met.mp h
      exact prs_ok (g.ok t ht) hq
  rw [← met_len, ← h1]
  unfold leftOf
  rw [← List.countP_eq_length_filter, ← List.countP_eq_length_filter, List.length_eq_countP_add_countP (p := fun p => decide (p ∈ met l))]
  simp only [Bool.not_eq_true, decide_eq_true_eq]
  have : (List.countP (fun p => !decide (p ∈ met l)) (allPairs n)) = List.countP (fun a => decide ¬(decide (a ∈ met l) = true)) (allPairs n) := by
    congr 1
    funext a
    by_cases h : a ∈ met l <;> simp [h]
  simp at this ⊢
  omega
end PM
/-! Arguments that are none. -/
namespace PM
open PySem DL PySem.W
end PM
/-! The first completion; no plan is greater than told. -/
namespace PM
open PySem DL PySem.W
theorem open_same {n : Nat} {l m : List T3} (h : ∀ t, t ∈ l ↔ t ∈ m) : openL n l = openL n m := by
  rw [openL_eq, openL_eq, left_same h]
theorem open_sort (n : Nat) (l : List T3) : openL n (sortT l) = openL n l := open_same fun t => sortT_mem
/-- the completion, the threes in the order of their coming -/
def complH (n : Nat) : Nat → List T3 → List T3
  | 0, l => l
  | k + 1, l => match openL n l with
    | [] => l
    | t :: _ => complH n k (l ++ [t])
def complT (n : Nat) (l : List T3) : List T3 := sortT (complH n 21 l)
def cE (n : Nat) (l : List T3) : En := [some (.u (.d (.int n))), some (.u (.d (eP l))), some (.u (.d (.list ((openL n l).map eT))))]
def cBody : SemS := sSeq (sSet .dat 1 (eBc oTuple (aCons (eBc oSort (aCons (eOp oAdd (eVar 1) (eTup (aCons (eOp oIx (eVar 2) (eC (.int 0))) aNil))) aNil)) aNil))) (sSeq (sSet .dat 2 (eCall m_open_list 2 (aCons (eVar 0) (aCons (eVar 1) aNil)))) sNil)
theorem sort_sort (l : List T3) (t : T3) (nd : (l ++ [t]).Nodup) : sortT (sortT l ++ [t]) = sortT (l ++ [t]) := sortT_eq (((sortT_perm l).append_right [t]).trans (sortT_perm _).symm) (sortT_up nd)
theorem at_zero {α : Type} (x : α) (r : List α) : L2.atI (x :: r) 0 = some x := atI_nat (x :: r) 0 (by simp)
theorem wh_stop {c : SemT} {body : SemS} {fuel : Nat} {δ : En} {S S1 : Sto} (h : c (bor δ) S = some (.ok false, S1)) : whGo c body (fuel + 1) δ S = some (.nx, δ, S1) := by
  conv => lhs; unfold whGo
  rw [h]
theorem wh_step {c : SemT} {body : SemS} {fuel : Nat} {δ δ2 : En} {S S1 S2 : Sto} (h : c (bor δ) S = some (.ok true, S1)) (hb : body δ S1 = some (.nx, δ2, S2)) : whGo c body (fuel + 1) δ S = whGo c body fuel δ2 S2 := by
  conv => lhs; unfold whGo
  rw [h]
  simp only []
  rw [hb]
theorem wh_rt {c : SemT} {body : SemS} {fuel : Nat} {δ δ2 : En} {S S1 S2 : Sto} {u : U} (h : c (bor δ) S = some (.ok true, S1)) (hb : body δ S1 = some (.rt u, δ2, S2)) : whGo c body (fuel + 1) δ S = some (.rt u, δ2, S2) := by
  conv => lhs; unfold whGo
  rw [h]
  simp only []
  rw [hb]
theorem wh_test {i : Nat} {δ : En} {S : Sto} {α : Type} (e : α → PyData) (l : List α) (h : (bor δ)[i]? = some (some (.u (.d (.list (l.map e)))))) : tOf (eOp (cD neP) (eVar i) (eLst aNil)) (bor δ) S = some (.ok (!decide (l = [])), S) := by
  have h2 : eVar i (bor δ) S = some (.ok (.d (.list (l.map e))), S) := by rw [ap_eVar, h]
  have e0 := ne_nil e l
  simp only [ap_tOf, ap_eOp, h2, bnd_ok, ap_eLst, ap_aNil, sp_allD0, List.length_nil, Nat.zero_le, if_true, sp_cD, e0]
theorem compl_loop (n : Nat) (hn : n ≤ 9) (S : Sto) : ∀ (k fuel : Nat) (l : List T3), Good n l → 20 < l.length + k → k < fuel → whGo (tOf (eOp (cD neP) (eVar 2) (eLst aNil))) cBody fuel (cE n (sortT l)) S = some (.nx, cE n (sortT (complH n k l)), S)
  | 0, _, l, g, h, _ => by
    have := full_len hn g
    omega
  | k + 1, 0, _, _, _, h => absurd h (by omega)
  | k + 1, fuel + 1, l, g, h, hf => by
    have hL : LIM = 1000000 := rfl
    have hlen := full_len hn g
    have et := wh_test (i := 2) (δ := cE n (sortT l)) (S := S) eT (openL n (sortT l)) rfl
    rw [open_sort] at et
    cases eo : openL n l with
    | nil =>
      rw [eo] at et
      rw [wh_stop et]
      unfold complH
      rw [eo]
    | cons t r =>
      have gt := open_good g (t := t) (by rw [eo]; exact List.mem_cons_self)
      have hs2 := sort_sort l t (good_nodup gt)
      rw [eo] at et
      have e1 := oSort_Tt (sortT l ++ [t]) (by rw [List.length_append, (sortT_perm l).length_eq, List.length_singleton]; omega)
      rw [hs2, List.map_append] at e1
      have hb : cBody (cE n (sortT l)) S = some (.nx, cE n (sortT (l ++ [t])), S) := by
        refine seq_to (δ1 := [some (.u (.d (.int n))), some (.u (.d (eP (sortT (l ++ [t]))))), some (.u (.d (.list ((openL n (sortT l)).map eT))))]) (S1 := S) ?_ (seq_to (δ1 := cE n (sortT (l ++ [t]))) (S1 := S) ?_ rfl)
        · have h1 : eVar 1 (cE n (sortT l)) S = some (.ok (.d (.tuple ((sortT l).map eT))), S) := rfl
          have h2 : eOp oIx (eVar 2) (eC (.int 0)) (cE n (sortT l)) S = some (.ok (.d (eT t)), S) := by
            have : eVar 2 (cE n (sortT l)) S = some (.ok (.d (.list (eT t :: r.map eT))), S) := by
              unfold cE
              rw [open_sort, eo]
              rfl
            simp only [ap_eOp, this, bnd_ok, ap_eC, sp_oIx1, at_zero]
          have h3 : oAdd (.d (.tuple ((sortT l).map eT))) (.d (.tuple [eT t])) = some (.d (.tuple ((sortT l).map eT ++ [eT t]))) := by
            rw [sp_oAdd3, if_pos (by rw [List.length_map, (sortT_perm l).length_eq, List.length_singleton]; omega)]
          have e1 : oSort [.d (.tuple ((sortT l).map eT ++ [eT t]))] = some (.d (.list ((sortT (l ++ [t])).map eT))) := e1
          rw [ap_sSet]
          simp only [ap_eBc, ap_aCons, ap_aNil, ap_eOp oAdd, ap_eTup, h1, h2, bnd_ok, sp_allD1, sp_allD0, List.length_cons, List.length_nil, Nat.zero_add, Nat.reduceLeDiff, if_true, h3, e1, sp_oTuple1]
          rfl
        · have e2 := ev_open_list n hn (sortT (l ++ [t])) (by rw [(sortT_perm _).length_eq, List.length_append, List.length_singleton]; omega) S
          simp [e2, cE]
      rw [wh_step et hb, compl_loop n hn S k fuel (l ++ [t]) gt (by rw [List.length_append, List.length_singleton]; omega) (by omega)]
      conv => rhs; unfold complH
      rw [eo]
theorem ev_completion (n : Nat) (hn : 3 ≤ n ∧ n ≤ 9) (l : List T3) (hs : standsB n l = true) (S : Sto) : m_completion [.d (.int n), .d (eP l)] S = some (.ok (.d (eP (complT n l))), S) := by
  obtain ⟨g, up⟩ := stands_iff.mp hs
  have hlen := full_len hn.2 g
  have e1 := ev_check_plan n hn l hlen S
  rw [if_pos hs] at e1
  have e2 := ev_open_list n hn.2 l (by omega) S
  have e3 := compl_loop n hn.2 S 21 (10 ^ 40) l g (by omega) (by decide)
  rw [sortT_eq (List.Perm.refl l) up] at e3
  unfold m_completion
  refine fn_rt (δ1 := cE n (sortT (complH n 21 l))) (seq_to (δ1 := startE 3 [.d (.int n), .d (eP l)]) (S1 := S) ?_ (seq_to (δ1 := cE n l) (S1 := S) ?_ (seq_to e3 (seq_rt rfl))))
  · simp [e1]
  · simp [e2, cE]
theorem sort_id {l : List T3} (up : Up l) : sortT l = l := sortT_eq (List.Perm.refl l) up
/-! ### no plan is greater than told -/
theorem sum_le {α : Type} (f : α → Nat) (k : Nat) : ∀ l : List α, (∀ x ∈ l, f x ≤ k) → (l.map f).sum ≤ k * l.length
  | [], _ => by simp
  | x :: l, h => by
    have h1 := h x List.mem_cons_self
    have h2 := sum_le f k l fun y hy => h y (List.mem_cons_of_mem _ hy)
    rw [List.map_cons, List.sum_cons, List.length_cons, Nat.mul_succ]
    omega
theorem sum_const {α : Type} (k : Nat) : ∀ l : List α, (l.map fun _ => k).sum = k * l.length
  | [] => by simp
  | x :: l => by
    rw [List.map_cons, List.sum_cons, sum_const k l, List.length_cons, Nat.mul_succ]
    omega
theorem sum_swap {α β : Type} (f : α → β → Nat) (O : List β) : ∀ A : List α, (A.map fun a => (O.map fun b => f a b).sum).sum = (O.map fun b => (A.map fun a => f a b).sum).sum
  | [] => by simp [sum_const]
  | a :: A => by
    rw [List.map_cons, List.sum_cons, sum_swap f O A, ← sum_add]
    simp only [List.map_cons, List.sum_cons]
theorem in_three {n : Nat} {t : T3} (ht : okT n t = true) : ((List.range n).filter fun p => memT p t).length = 3 := by
  have h := okT_iff.mp ht
  have : ((List.range n).filter fun p => memT p t).Perm [t.1, t.2.1, t.2.2] := by
    refine (List.perm_ext_iff_of_nodup (List.nodup_range.filter _) ?_).mpr fun x => ?_
    · simp only [List.nodup_cons, List.mem_cons, List.not_mem_nil, or_false, not_false_eq_true, List.nodup_nil, and_true]
      omega
    · rw [List.mem_filter, List.mem_range, memT_iff]
      simp only [List.mem_cons, List.not_mem_nil, or_false]
      omega
  exact this.length_eq
theorem deg_sum {n : Nat} {l : List T3} (g : Good n l) : ((List.range n).map fun p => (l.filter (memT p)).length).sum = 3 * l.length := by
  have h1 : ((List.range n).map fun p => (l.filter (memT p)).length) = (List.range n).map fun p => (l.map fun t => if memT p t = true then 1 else 0).sum := List.map_congr_left fun p _ => (sum_if (memT p) l).symm
  rw [h1, sum_swap (fun p t => if memT p t = true then 1 else 0)]
  have h2 : (l.map fun t => ((List.range n).map fun p => if memT p t = true then 1 else 0).sum) = l.map fun _ => 3 := List.map_congr_left fun t ht => by
    rw [sum_if (fun p => memT p t)]
    exact in_three (g.ok t ht)
  rw [h2, sum_const]
theorem deg_le {n : Nat} {l : List T3} (g : Good n l) {p : Nat} (hp : p < n) : 2 * (l.filter (memT p)).length ≤ n - 1 := by
  rw [← partners_len g p]
  have : (partnersL n l p).length ≤ ((List.range n).erase p).length := nodup_len (List.nodup_range.filter _) fun x hx => by
    obtain ⟨h1, h2⟩ := List.mem_filter.mp hx
    refine (List.mem_erase_of_ne fun e => ?_).mpr h1
    subst e
    have h2 := of_decide_eq_true h2
    obtain ⟨t, ht, hq⟩ := mem_met.mp h2
    have := okT_iff.mp (g.ok t ht)
    rw [Nat.min_self, Nat.max_self] at hq
    rcases mem_prs.mp hq with e | e | e <;> (injection e with e1 e2; omega)
  rw [List.length_erase_of_mem (List.mem_range.mpr hp), List.length_range] at this
  exact this
theorem five_no : ((threesL 5).all fun s => (threesL 5).all fun t => (threesL 5).all fun u => decide (s = t) || (decide (s = u) || (decide (t = u) || (clashB s t || (clashB s u || clashB t u))))) = true := by decide +kernel
theorem good_max {n : Nat} (hn : 3 ≤ n ∧ n ≤ 9) {l : List T3} (g : Good n l) : l.length ≤ gN n := by
  have h1 := deg_sum g
  have h2 : ((List.range n).map fun p => (l.filter (memT p)).length).sum ≤ ((n - 1) / 2) * (List.range n).length := sum_le _ _ _ fun p hp => by
    have := deg_le g (List.mem_range.mp hp)
    omega
  rw [h1, List.length_range] at h2
  have : n = 3 ∨ n = 4 ∨ n = 5 ∨ n = 6 ∨ n = 7 ∨ n = 8 ∨ n = 9 := by omega
  rcases this with rfl | rfl | rfl | rfl | rfl | rfl | rfl
  · simp [gN] at h2 ⊢; omega
  · simp [gN] at h2 ⊢; omega
  · have hle : l.length ≤ 3 := by simp at h2; omega
    refine Classical.byContradiction fun hc => ?_
    have hl3 : l.length = 3 := by simp [gN] at hc; omega
    match l, hl3 with
    | [s, t, u], _ =>
      have nd := good_nodup g
      have ok := fun x hx => g.ok x hx
      have cl : ∀ x y, x ∈ [s, t, u] → y ∈ [s, t, u] → x ≠ y → clashB x y = false := fun x y hx hy hne => (clash_no (g.ok x hx) (g.ok y hy)).mpr fun q hq hq2 => hne (share g.nd hx hy hq hq2)
      have h5 := List.all_eq_true.mp (List.all_eq_true.mp (List.all_eq_true.mp five_no s (mem_threes.mpr (g.ok s (by simp)))) t (mem_threes.mpr (g.ok t (by simp)))) u (mem_threes.mpr (g.ok u (by simp)))
      simp only [List.nodup_cons, List.mem_cons, List.not_mem_nil, or_false, not_or, not_false_eq_true, List.nodup_nil, and_true] at nd
      obtain ⟨⟨n1, n2⟩, n3⟩ := nd
      rw [decide_eq_false n1, decide_eq_false n2, decide_eq_false n3, cl s t (by simp) (by simp) n1, cl s u (by simp) (by simp) n2, cl t u (by simp) (by simp) n3] at h5
      cases h5
  · simp [gN] at h2 ⊢; omega
  · simp [gN] at h2 ⊢; omega
  · simp [gN] at h2 ⊢; omega
  · simp [gN] at h2 ⊢; omega
end PM
/-! Plans in their order; the first full plan; the law's own search. -/
namespace PM
open PySem DL PySem.W
/-! ### the order of lists -/
section
variable {α : Type} [DecidableEq α] {lt : α → α → Bool}
theorem lex_irr (ir : ∀ a, lt a a = false) : ∀ l : List α, lexB lt l l = false
  | [] => rfl
  | a :: l => by
    unfold lexB
    rw [if_pos rfl]
    exact lex_irr ir l
theorem lex_trans (tr : ∀ a b c, lt a b = true → lt b c = true → lt a c = true) (as : ∀ a b, lt a b = true → lt b a = true → False) : ∀ l m k : List α, lexB lt l m = true → lexB lt m k = true → lexB lt l k = true
  | [], [], _, h, _ => nomatch h
  | [], _ :: _, [], _, h => nomatch h
  | [], _ :: _, _ :: _, _, _ => rfl
  | _ :: _, [], _, h, _ => nomatch h
  | _ :: _, _ :: _, [], _, h => nomatch h
  | a :: l, b :: m, c :: k, h1, h2 => by
    unfold lexB at h1 h2 ⊢
    by_cases e1 : a = b
    · subst e1
      rw [if_pos rfl] at h1
      by_cases e2 : a = c
      · subst e2
        rw [if_pos rfl] at h2 ⊢
        exact lex_trans tr as l m k h1 h2
      · rw [if_neg e2] at h2 ⊢
        exact h2
    · rw [if_neg e1] at h1
      by_cases e2 : b = c
      · subst e2
        rw [if_neg e1]
        exact h1
      · rw [if_neg e2] at h2
        by_cases e3 : a = c
        · subst e3
          exact (as _ _ h1 h2).elim
        · rw [if_neg e3]
          exact tr a b c h1 h2
end
def leP' (a b : List T3) : Bool := !ltP' b a
theorem ltT_irr (a : T3) : ltT a a = false := by
  cases h : ltT a a with
  | false => rfl
  | true => exact absurd rfl (ltT_ne h)
theorem ltP_irr (a : List T3) : ltP' a a = false := lex_irr ltT_irr a
theorem leD_P (a b : List T3) : leD (eP a) (eP b) = leP' a b := by
  unfold leD leP'
  rw [dataLt_P]
theorem alikeAll_T : ∀ l m : List T3, alikeAll (l.map eT) (m.map eT) = true
  | [], [] => by simp [alikeAll]
  | [], _ :: _ => by simp [alikeAll]
  | _ :: _, [] => by simp [alikeAll]
  | a :: l, b :: m => by
    rw [List.map_cons, List.map_cons, alikeAll, alike_T, alikeAll_T l m]
    rfl
theorem alike_P (l m : List T3) : alike (eP l) (eP m) = true := by
  unfold eP
  rw [alike]
  exact alikeAll_T l m
def sortP (l : List (List T3)) : List (List T3) := isort leP' l
theorem sortOk_P (l : List (List T3)) (h : l.length ≤ LIM) (hne : ∀ p ∈ l, p ≠ []) : sortOk (l.map eP) = true := by
  unfold sortOk
  simp only [List.all_map, List.length_map, Bool.and_eq_true, List.all_eq_true, Function.comp_apply, decide_eq_true_eq, Bool.or_eq_true]
  refine ⟨⟨⟨fun a _ b _ => alike_P a b, .inl fun a ha => ?_⟩, fun a _ => dok_P a⟩, h⟩
  match a, hne a ha with
  | t :: r, _ => rfl
theorem oSort_P (l : List (List T3)) (h : l.length ≤ LIM) (hne : ∀ p ∈ l, p ≠ []) : oSort [.d (.list (l.map eP))] = some (.d (.list ((sortP l).map eP))) := by
  show (if sortOk (l.map eP) = true then some (U.d (PyData.list (srtD (l.map eP)))) else none) = _
  rw [if_pos (sortOk_P l h hne), srtD, isort_map eP leD_P]
  rfl
/-! ### the least -/
def minP (x : List T3) (xs : List (List T3)) : List T3 := xs.foldl (fun a y => if ltP' y a = true then y else a) x
theorem minD_P : ∀ (xs : List (List T3)) (x : List T3), minD (eP x) (xs.map eP) = eP (minP x xs)
  | [], x => rfl
  | y :: xs, x => by
    show minD (if dataLt (eP y) (eP x) = true then eP y else eP x) (xs.map eP) = eP (minP (if ltP' y x = true then y else x) xs)
    rw [dataLt_P, ← minD_P xs]
    congr 1
    split <;> rfl
theorem minOk_P (l : List (List T3)) : minOk (l.map eP) = true := by
  unfold minOk
  simp only [List.all_map, Bool.and_eq_true, List.all_eq_true, Function.comp_apply, decide_eq_true_eq]
  refine ⟨⟨fun a _ b _ => alike_P a b, fun a _ => rfl⟩, ?_⟩
  exact Nat.le_trans (depth_all eP 2 depth_P l) (by decide)
theorem oMinL_P (x : List T3) (xs : List (List T3)) : oMinL [.d (.list (eP x :: xs.map eP))] = some (.d (eP (minP x xs))) := by
  show (if minOk (eP x :: xs.map eP) = true then some (U.d (minD (eP x) (xs.map eP))) else none) = _
  rw [if_pos (show minOk (eP x :: xs.map eP) = true from minOk_P (x :: xs)), minD_P]
theorem ev_full_plan (n : Nat) (hn : 3 ≤ n ∧ n ≤ 9) (l : List T3) (hs : standsB n l = true) (S : Sto) : m_full_plan [.d (.int n), .d (eP l)] S = match fullPlans n l with
    | [] => some (.error 6, S)
    | x :: xs => some (.ok (.d (eP (minP x xs))), S) := by
  have g := (stands_iff.mp hs).1
  have hl := full_len hn.2 g
  have e1 := ev_check_plan n hn l hl S
  rw [if_pos hs] at e1
  have e2 := ev_full_plans n hn l g S
  unfold m_full_plan
  cases hf : fullPlans n l with
  | nil =>
    rw [hf] at e2
    refine fn_ex (δ1 := [some (.u (.d (.int n))), some (.u (.d (eP l))), some (.u (.d (.list [])))]) (seq_to (δ1 := startE 3 [.d (.int n), .d (eP l)]) (S1 := S) ?_ (seq_to (δ1 := [some (.u (.d (.int n))), some (.u (.d (eP l))), some (.u (.d (.list [])))]) (S1 := S) ?_ (seq_ex ?_)))
    · simp [e1]
    · simp [e2]
    · rfl
  | cons x xs =>
    rw [hf] at e2
    have e3 : eqP (.list ((x :: xs).map eP)) (.list []) = some false := by rw [eq_nil]; rfl
    have e4 := oMinL_P x xs
    refine fn_rt (δ1 := [some (.u (.d (.int n))), some (.u (.d (eP l))), some (.u (.d (.list ((x :: xs).map eP))))]) (seq_to (δ1 := startE 3 [.d (.int n), .d (eP l)]) (S1 := S) ?_ (seq_to (δ1 := [some (.u (.d (.int n))), some (.u (.d (eP l))), some (.u (.d (.list ((x :: xs).map eP))))]) (S1 := S) ?_ (seq_to (δ1 := [some (.u (.d (.int n))), some (.u (.d (eP l))), some (.u (.d (.list ((x :: xs).map eP))))]) (S1 := S) ?_ (seq_rt ?_))))
    · simp [e1]
    · simp [e2]
    · rw [ap_sIf]
      have h2 : eVar 2 (bor [some (.u (.d (.int n))), some (.u (.d (eP l))), some (.u (.d (.list ((x :: xs).map eP))))]) S = some (.ok (.d (.list ((x :: xs).map eP))), S) := rfl
      simp only [ap_tOf, ap_eOp, h2, bnd_ok, ap_eLst, ap_aNil, sp_allD0, List.length_nil, Nat.zero_le, if_true, sp_cD, e3]
      rfl
    · have h2 : eVar 2 (bor [some (.u (.d (.int n))), some (.u (.d (eP l))), some (.u (.d (.list ((x :: xs).map eP))))]) S = some (.ok (.d (.list (eP x :: xs.map eP))), S) := rfl
      rw [ap_sRet]
      simp only [ap_eBc, ap_aCons, ap_aNil, h2, bnd_ok, e4]
end PM
/-! The law's own search of full plans. -/
namespace PM
open PySem DL PySem.W
/-! ### the law's nodes -/
abbrev uL (l : List T3) : Option Cell := some (.u (.d (.list (l.map eT))))
abbrev uI (a : Nat) : Option Cell := some (.u (.d (.int a)))
end PM
/-! Full plans: which players, how many threes, how they meet. -/
namespace PM
open PySem DL PySem.W
theorem up_ext {l m : List T3} (hl : Up l) (hm : Up m) (h : ∀ t, t ∈ l ↔ t ∈ m) : l = m := by
  have hp : l.Perm m := (List.perm_ext_iff_of_nodup hl.nodup hm.nodup).mpr h
  rw [← sort_id hl]
  exact sortT_eq hp hm
theorem full_deg {n : Nat} {p : List T3} (g : Good n p) (hf : leftOf n p = []) {x : Nat} (hx : x < n) : (partnersL n p x).length = n - 1 := by
  have : (partnersL n p x).Perm ((List.range n).erase x) := by
    refine (List.perm_ext_iff_of_nodup (List.nodup_range.filter _) (List.nodup_range.erase x)).mpr fun y => ?_
    rw [List.mem_filter, decide_eq_true_iff]
    constructor
    · rintro ⟨h1, h2⟩
      refine (List.mem_erase_of_ne fun e => ?_).mpr h1
      subst e
      obtain ⟨t, ht, hq⟩ := mem_met.mp h2
      have := okT_iff.mp (g.ok t ht)
      rw [Nat.min_self, Nat.max_self] at hq
      rcases mem_prs.mp hq with e | e | e <;> (injection e with e1 e2; omega)
    · intro h
      have hy := List.mem_range.mp (List.mem_of_mem_erase h)
      have hne : y ≠ x := fun e => by
        subst e
        exact absurd h (List.Nodup.not_mem_erase List.nodup_range)
      refine ⟨List.mem_range.mpr hy, Classical.byContradiction fun hn => ?_⟩
      have : (min y x, max y x) ∈ leftOf n p := mem_leftOf.mpr ⟨mem_allPairs.mpr (by simp only; omega), hn⟩
      rw [hf] at this
      exact nomatch this
  rw [this.length_eq, List.length_erase_of_mem (List.mem_range.mpr hx), List.length_range]
theorem no_full {n : Nat} (hn : n = 4 ∨ n = 5 ∨ n = 6 ∨ n = 8) {l : List T3} (g : Good n l) : fullPlans n l = [] := by
  rw [List.eq_nil_iff_forall_not_mem]
  intro p hp
  obtain ⟨p1, p2, _⟩ := (mem_full g).mp hp
  obtain ⟨gp, _⟩ := stands_iff.mp p1
  have h1 := left_count gp
  rw [p2, List.length_nil] at h1
  have h2 := full_deg gp p2 (x := 0) (by omega)
  rw [partners_len gp] at h2
  rcases hn with rfl | rfl | rfl | rfl
  · omega
  · have h3 : (allPairs 5).length = 10 := by decide
    omega
  · omega
  · omega
theorem c30 : (fullPlans 7 []).length = 30 := by decide +kernel
theorem c1 : (fullPlans 3 []).length = 1 := by decide +kernel
def eqT' (s t : T3) : Bool := Nat.beq s.1 t.1 && (Nat.beq s.2.1 t.2.1 && Nat.beq s.2.2 t.2.2)
theorem eqT'_eq (s t : T3) : eqT' s t = decide (s = t) := by
  obtain ⟨a, b, c⟩ := s
  obtain ⟨x, y, z⟩ := t
  rw [Bool.eq_iff_iff, decide_eq_true_iff]
  unfold eqT'
  simp
def beqL : List Nat → List Nat → Bool
  | [], [] => true
  | x :: l, y :: m => Nat.beq x y && beqL l m
  | _, _ => false
end PM
/-! Days. -/
namespace PM
open PySem DL PySem.W
def plT (t : T3) : List Nat := [t.1, t.2.1, t.2.2]
def plL (l : List T3) : List Nat := l.flatMap plT
def dayB (n : Nat) (l : List T3) : Bool := l.all (okT n) && (decide (isort leN (plL l) = List.range n) && decide (l = sortT l))
theorem pl_len (l : List T3) : (plL l).length = 3 * l.length := by
  rw [plL, flat_two plT 3 l fun _ _ => rfl]
/-- gathering the players: x.extend(three) -/
theorem gather (S : Sto) (j v : Nat) (Ev : List PyData → Option Cell → En) (hv : ∀ acc c t, setD (Ev acc c) [(v, eT t)] = Ev acc (some (.u (.d (eT t))))) (hx : ∀ acc c, (Ev acc c)[v]? = some c) (ho : ∀ acc c, (Ev acc c)[j]? = some (some (.own acc))) (hset : ∀ acc acc' c, (Ev acc c).set j (some (.own acc')) = Ev acc' c)
    (l : List T3) (hl : l.length ≤ 100) (acc : List Nat) (ha : acc.length ≤ 1000) (c : Option Cell) :
    ∃ c', forGo (.one v) (sSeq (sExtA j (eVar v)) sNil) (l.map eT) (Ev (acc.map eI) c) S = some (.nx, Ev ((acc ++ plL l).map eI) c', S) := by
  have hL : LIM = 1000000 := rfl
  have hlen : (l.flatMap fun t => (plT t).map eI).length = 3 * l.length := flat_two _ 3 l fun _ _ => rfl
  obtain ⟨c', e⟩ := for_acc (γ := Option Cell) (tg := .one v) (S := S) (body := sSeq (sExtA j (eVar v)) sNil) Ev eT (fun t => (plT t).map eI) LIM l (acc.map eI) c (by rw [List.length_map, hlen]; omega) (fun acc c t ht hb => by
    refine ⟨[(v, eT t)], some (.u (.d (eT t))), rfl, ?_⟩
    rw [hv]
    refine seq_to (S1 := S) (δ1 := Ev (acc ++ (plT t).map eI) (some (.u (.d (eT t))))) ?_ rfl
    rw [ap_sExtA, ho]
    have h1 : eVar v (Ev acc (some (.u (.d (eT t))))) S = some (.ok (.d (.tuple ((plT t).map eI))), S) := by rw [ap_eVar, hx]; rfl
    simp only [h1]
    rw [if_pos hb, hset])
  refine ⟨c', ?_⟩
  rw [e, List.map_append, plL, List.map_flatMap]
theorem fits_all (n : Nat) (l : List T3) (hl : l.length ≤ 1000) {δ : En} {S : Sto} (h0 : δ[0]? = some (some (.u (.d (.int n))))) (h1 : δ[1]? = some (some (.u (.d (eP l))))) (hv : 2 < δ.length) :
    eBc oAll (aCons (eLc (itSeq (eVar 1)) [2] (.one 2) tTrue (eCall m_fits 2 (aCons (eVar 0) (aCons (eVar 2) aNil)))) aNil) δ S = some (.ok (.d (.bool (l.all (okT n)))), S) := by
  have hL : LIM = 1000000 := rfl
  have el : eLc (itSeq (eVar 1)) [2] (.one 2) tTrue (eCall m_fits 2 (aCons (eVar 0) (aCons (eVar 2) aNil))) δ S = some (.ok (.d (.list (l.map fun t => .bool (okT n t)))), S) := by
    refine lc_map eT l (fun t => .bool (okT n t)) ?_ (by omega) (fun t ht => ⟨[(2, eT t)], rfl, ?_⟩)
    · simp [h1]
      rfl
    · have e2 : (setD (wipeE δ [2]) [(2, eT t)])[2]? = some (some (.u (.d (eT t)))) := by simp [setD, hv]
      have e0 : (setD (wipeE δ [2]) [(2, eT t)])[0]? = some (some (.u (.d (.int n)))) := by simp [setD, h0]
      simp only [ap_eCall, ap_aCons, ap_aNil, ap_eVar, e0, e2, bnd_ok, List.length_cons, List.length_nil, Nat.zero_add, Nat.reduceAdd, if_true, ev_fits]
  simp only [ap_eBc, ap_aCons, el, bnd_ok, ap_aNil, oAll_map]
theorem ev_makes_day (n : Nat) (hn : n ≤ 9) (l : List T3) (hl : l.length ≤ 100) (S : Sto) : m_makes_day [.d (.int n), .d (eP l)] S = some (.ok (.d (.bool (dayB n l))), S) := by
  have hL : LIM = 1000000 := rfl
  let Ev : List PyData → Option Cell → En := fun acc c => [some (.u (.d (.int n))), some (.u (.d (eP l))), c, some (.own acc)]
  obtain ⟨c', e⟩ := gather S 3 2 Ev (fun _ _ _ => rfl) (fun _ _ => rfl) (fun _ _ => rfl) (fun _ _ _ => rfl) l hl [] (by simp) none
  rw [List.nil_append] at e
  have hf := fits_all n l (by omega) (δ := bor (startE 4 [.d (.int n), .d (eP l)])) (S := S) rfl rfl (by simp)
  have ht : isT .tuple (eP l) = true := rfl
  unfold m_makes_day
  cases ho : l.all (okT n) with
  | false =>
    refine fn_rt (δ1 := startE 4 [.d (.int n), .d (eP l)]) (seq_rt ?_)
    rw [ho] at hf
    have h1 : eVar 1 (bor (startE 4 [.d (.int n), .d (eP l)])) S = some (.ok (.d (eP l)), S) := rfl
    rw [ap_sIf]
    simp only [ap_tOrS, ap_tNotS, ap_tOf, ap_eIsT, h1, bnd_ok, ht, hf, Bool.not_true, Bool.false_eq_true, if_false, Bool.not_false]
    unfold dayB
    rw [ho]
    rfl
  | true =>
    rw [ho] at hf
    refine fn_rt (δ1 := Ev ((plL l).map eI) c') (seq_to (S1 := S) (δ1 := startE 4 [.d (.int n), .d (eP l)]) ?_ (seq_to (S1 := S) (δ1 := Ev [] none) rfl (seq_to (sFor_of (items := l.map eT) (S1 := S) rfl e) (seq_rt ?_))))
    · have h1 : eVar 1 (bor (startE 4 [.d (.int n), .d (eP l)])) S = some (.ok (.d (eP l)), S) := rfl
      rw [ap_sIf]
      simp only [ap_tOrS, ap_tNotS, ap_tOf, ap_eIsT, h1, bnd_ok, ht, hf, Bool.not_true, Bool.false_eq_true, if_false]
      rfl
    · have s1 := oSort_I (plL l) (by rw [pl_len]; omega)
      have s2 := oSort_Tt l (by omega)
      have h1 : eVar 1 (bor (Ev ((plL l).map eI) c')) S = some (.ok (.d (.tuple (l.map eT))), S) := rfl
      have h3 : eVar 3 (bor (Ev ((plL l).map eI) c')) S = some (.ok (.d (.list ((plL l).map eI))), S) := rfl
      have h0 : eVar 0 (bor (Ev ((plL l).map eI) c')) S = some (.ok (.d (.int n)), S) := rfl
      have hr : eLRange (eVar 0) (bor (Ev ((plL l).map eI) c')) S = some (.ok (.d (.list ((List.range n).map eI))), S) := by
        have h1 := ints_range n
        have h4 : (n : Int).natAbs ≤ 1000 := by omega
        simp only [ap_eLRange, h0, bnd_ok]
        rw [if_pos h4, h1]
      have q1 := eqP_list eqe_I 0 (by decide) depth_eI (isort leN (plL l)) (List.range n)
      have q2 := eqP_list eqe_T 1 (by decide) depth_T l (sortT l)
      rw [ap_sRet]
      simp only [ap_eAnd, ap_eOp, ap_eBc, ap_aCons, ap_aNil, h1, h3, hr, bnd_ok, s1, s2, sp_oList2, sp_cD, q1, q2]
      unfold dayB
      rw [ho, Bool.true_and]
      cases decide (isort leN (plL l) = List.range n) <;> rfl
/-! ### the days of a plan -/
def free (one : List T3) (t : T3) : Bool := !(plT t).any fun p => (plL one).any fun q => Nat.beq q p
def after (one : List T3) (t : T3) : Bool := match one.getLast? with
  | none => true
  | some s => ltT s t
def grow (plan : List T3) (some : List (List T3)) : List (List T3) := some.flatMap fun one => (plan.filter fun t => free one t && after one t).map fun t => one ++ [t]
def levels (plan : List T3) : Nat → List (List T3)
  | 0 => [[]]
  | k + 1 => grow plan (levels plan k)
def dayL (n : Nat) (plan : List T3) : List (List T3) := (levels plan (n / 3)).filter (dayB n)
theorem inP_nat (a : Nat) (l : List Nat) : inP (.int (a : Int)) (.list (l.map eI)) = some (l.any fun q => Nat.beq q a) := by
  have h := inP_list eqe_I l a (by rfl)
  have : decide (a ∈ l) = l.any fun q => Nat.beq q a := by
    rw [Bool.eq_iff_iff, decide_eq_true_iff, List.any_eq_true]
    constructor
    · intro hm
      exact ⟨a, hm, by simp⟩
    · rintro ⟨x, hx, e⟩
      rw [← Nat.eq_of_beq_eq_true e]
      exact hx
  rw [← this]
  exact h
theorem levels_len {plan : List T3} : ∀ (k : Nat) (one : List T3), one ∈ levels plan k → one.length = k ∧ ∀ t ∈ one, t ∈ plan
  | 0, one, h => by
    rw [levels, List.mem_singleton] at h
    subst h
    exact ⟨rfl, fun _ h => nomatch h⟩
  | k + 1, one, h => by
    obtain ⟨o, ho, h2⟩ := List.mem_flatMap.mp h
    obtain ⟨t, ht, rfl⟩ := List.mem_map.mp h2
    obtain ⟨h3, h4⟩ := levels_len k o ho
    refine ⟨by rw [List.length_append, h3]; rfl, fun s hs => ?_⟩
    rcases List.mem_append.mp hs with z | z
    · exact h4 s z
    · rw [List.mem_singleton.mp z]
      exact (List.mem_filter.mp ht).1
end PM
set_option maxHeartbeats 400000
/-! The days of a plan, walked. -/
namespace PM
open PySem DL PySem.W
theorem for_cnt {tg : Tg} {body : SemS} {S : Sto} (P : Nat → En → Prop) : ∀ (items : List PyData) (i : Nat) (δ : En), P i δ → (∀ x ∈ items, ∀ j δ, P j δ → j < i + items.length → ∃ ps δ', tg.split x = some ps ∧ body (setD δ ps) S = some (.nx, δ', S) ∧ P (j + 1) δ') → ∃ δ', forGo tg body items δ S = some (.nx, δ', S) ∧ P (i + items.length) δ'
  | [], i, δ, h, _ => ⟨δ, rfl, h⟩
  | x :: r, i, δ, h, hs => by
    rw [List.length_cons] at hs
    obtain ⟨ps, δ1, e1, e2, h1⟩ := hs x List.mem_cons_self i δ h (by omega)
    obtain ⟨δ2, e3, h2⟩ := for_cnt P r (i + 1) δ1 h1 fun y hy j δ hp hj => hs y (List.mem_cons_of_mem _ hy) j δ hp (by omega)
    refine ⟨δ2, ?_, by rw [List.length_cons]; rw [show i + (r.length + 1) = i + 1 + r.length by omega]; exact h2⟩
    unfold forGo
    rw [e1]
    simp only []
    rw [e2]
    exact e3
theorem oAny_map {α : Type} (f : α → Bool) (l : List α) : oAny [.d (.list (l.map fun x => PyData.bool (f x)))] = some (.d (.bool (l.any f))) := by
  show (match allB (l.map fun x => PyData.bool (f x)) with | some bs => some (U.d (.bool (bs.any id))) | none => none) = _
  rw [allB_map]
  simp
def dE (n : Nat) (plan : List T3) (some' : List (List T3)) (c3 c4 c5 c6 c7 : Option Cell) : En := [some (.u (.d (.int n))), some (.u (.d (eP plan))), some (.u (.d (.list (some'.map eP)))), c3, c4, c5, c6, c7, none]
abbrev uT (t : T3) : Option Cell := some (.u (.d (eT t)))
abbrev uP (l : List T3) : Option Cell := some (.u (.d (eP l)))
abbrev oI (l : List Nat) : Option Cell := some (.own (l.map eI))
def dTest : SemT := tAndS (tNotS (tOf (eBc oAny (aCons (eLc (itSeq (eVar 7)) [8] (.one 8) tTrue (eOp (cD inP) (eVar 8) (eVar 6))) aNil)))) (tOrS (tOf (eOp (cD eqP) (eVar 5) (eTup aNil))) (tOf (eOp (cD ltP) (eOp oIx (eVar 5) (eNeg (eC (.int 1)))) (eVar 7))))
theorem last_cases (one : List T3) : one = [] ∨ ∃ l s, one = l ++ [s] := by
  by_cases h : one = []
  · exact .inl h
  · exact .inr ⟨one.dropLast, one.getLast h, (List.dropLast_concat_getLast h).symm⟩
theorem after_last (l : List T3) (s t : T3) : after (l ++ [s]) t = ltT s t := by
  unfold after
  rw [List.getLast?_concat]
theorem ev_dTest (n : Nat) (plan : List T3) (some' : List (List T3)) (c3 c4 : Option Cell) (one : List T3) (t : T3) (S : Sto) : dTest (bor (dE n plan some' c3 c4 (uP one) (oI (plL one)) (uT t))) S = some (.ok (free one t && after one t), S) := by
  have el : eLc (itSeq (eVar 7)) [8] (.one 8) tTrue (eOp (cD inP) (eVar 8) (eVar 6)) (bor (dE n plan some' c3 c4 (uP one) (oI (plL one)) (uT t))) S = some (.ok (.d (.list ((plT t).map fun p => .bool ((plL one).any fun q => Nat.beq q p)))), S) := by
    refine lc_map eI (plT t) (fun p => .bool ((plL one).any fun q => Nat.beq q p)) rfl (by simp [plT, LIM]) (fun p hp => ⟨[(8, eI p)], rfl, ?_⟩)
    have h8 : eVar 8 (setD (wipeE (bor (dE n plan some' c3 c4 (uP one) (oI (plL one)) (uT t))) [8]) [(8, eI p)]) S = some (.ok (.d (.int p)), S) := rfl
    have h6 : eVar 6 (setD (wipeE (bor (dE n plan some' c3 c4 (uP one) (oI (plL one)) (uT t))) [8]) [(8, eI p)]) S = some (.ok (.d (.list ((plL one).map eI))), S) := rfl
    simp only [ap_eOp, h8, h6, bnd_ok, sp_cD, inP_nat]
  have h5 : eVar 5 (bor (dE n plan some' c3 c4 (uP one) (oI (plL one)) (uT t))) S = some (.ok (.d (eP one)), S) := rfl
  have h7 : eVar 7 (bor (dE n plan some' c3 c4 (uP one) (oI (plL one)) (uT t))) S = some (.ok (.d (eT t)), S) := rfl
  have q1 : eqP (eP one) (.tuple []) = some (decide (one = [])) := eqP_P one []
  unfold dTest
  rw [ap_tAndS, ap_tNotS, ap_tOf, ap_eBc, ap_aCons, el]
  simp only [bnd_ok, ap_aNil, oAny_map]
  have hf : (!(plT t).any fun p => (plL one).any fun q => Nat.beq q p) = free one t := rfl
  rw [hf]
  cases free one t with
  | false => rfl
  | true =>
    simp only [if_true, ap_tOrS, ap_tOf, ap_eOp, h5, h7, bnd_ok, ap_eTup, ap_aNil, sp_allD0, List.length_nil, Nat.zero_le, sp_cD, q1, Bool.true_and]
    rcases last_cases one with rfl | ⟨l, s, rfl⟩
    · rfl
    · rw [decide_eq_false (by simp), after_last]
      have hi : oIx (.d (eP (l ++ [s]))) (.d (.int (-1))) = some (.d (eT s)) := by
        unfold eP
        rw [sp_oIx2, List.map_append]
        show (match L2.atI (l.map eT ++ [eT s]) (-1) with | some x => some (U.d x) | none => none) = _
        rw [at_last]
      simp only [Bool.false_eq_true, if_false, ap_eNeg, ap_eC, bnd_ok, hi, h7, sp_cD, ltP_T]
theorem day_inner (n : Nat) (plan : List T3) (hp : plan.length ≤ 20) (some' : List (List T3)) (c3 : Option Cell) (one : List T3) (ho : one.length ≤ 100) (acc : List PyData) (ha : acc.length ≤ 100000) (c7 : Option Cell) (S : Sto) :
    ∃ c7', forGo (.one 7) (sSeq (sIf dTest (sSeq (sApp 4 (eOp oAdd (eVar 5) (eTup (aCons (eVar 7) aNil)))) sNil) sNil) sNil) (plan.map eT) (dE n plan some' c3 (some (.own acc)) (uP one) (oI (plL one)) c7) S = some (.nx, dE n plan some' c3 (some (.own (acc ++ ((plan.filter fun t => free one t && after one t).map fun t => one ++ [t]).map eP))) (uP one) (oI (plL one)) c7', S) := by
  have hL : LIM = 1000000 := rfl
  have hlen : (plan.flatMap fun t => if (free one t && after one t) = true then [eP (one ++ [t])] else []).length ≤ 1 * plan.length := flat_len _ 1 _ fun t _ => by split <;> simp
  obtain ⟨c', e⟩ := for_acc (γ := Option Cell) (tg := .one 7) (S := S) (body := sSeq (sIf dTest (sSeq (sApp 4 (eOp oAdd (eVar 5) (eTup (aCons (eVar 7) aNil)))) sNil) sNil) sNil) (fun acc c7 => dE n plan some' c3 (some (.own acc)) (uP one) (oI (plL one)) c7) eT (fun t => if (free one t && after one t) = true then [eP (one ++ [t])] else []) 200000 plan acc c7 (by omega) (fun acc c t ht hb => by
    refine ⟨[(7, eT t)], uT t, rfl, ?_⟩
    have hs : setD (dE n plan some' c3 (some (.own acc)) (uP one) (oI (plL one)) c) [(7, eT t)] = dE n plan some' c3 (some (.own acc)) (uP one) (oI (plL one)) (uT t) := rfl
    rw [hs, ap_sSeq, ap_sIf, ev_dTest]
    cases free one t && after one t with
    | false => simp
    | true =>
      have h5 : eVar 5 (dE n plan some' c3 (some (.own acc)) (uP one) (oI (plL one)) (uT t)) S = some (.ok (.d (.tuple (one.map eT))), S) := rfl
      have h7 : eVar 7 (dE n plan some' c3 (some (.own acc)) (uP one) (oI (plL one)) (uT t)) S = some (.ok (.d (eT t)), S) := rfl
      have h4 : (dE n plan some' c3 (some (.own acc)) (uP one) (oI (plL one)) (uT t))[4]? = some (some (.own acc)) := rfl
      have hadd : oAdd (.d (.tuple (one.map eT))) (.d (.tuple [eT t])) = some (.d (eP (one ++ [t]))) := by
        rw [sp_oAdd3, if_pos (by rw [List.length_map, List.length_singleton]; omega)]
        unfold eP
        rw [List.map_append]
        rfl
      have ea : sApp 4 (eOp oAdd (eVar 5) (eTup (aCons (eVar 7) aNil))) (dE n plan some' c3 (some (.own acc)) (uP one) (oI (plL one)) (uT t)) S = some (.nx, dE n plan some' c3 (some (.own (acc ++ [eP (one ++ [t])]))) (uP one) (oI (plL one)) (uT t), S) := by
        rw [ap_sApp, h4]
        simp only [ap_eOp, ap_eTup, ap_aCons, ap_aNil, h5, h7, bnd_ok, sp_allD1, sp_allD0, List.length_cons, List.length_nil, Nat.zero_add, Nat.reduceLeDiff, if_true, hadd]
        rw [if_pos (by omega)]
        rfl
      simp only [seq_nx ea, if_true]
      rfl)
  refine ⟨c', ?_⟩
  rw [e]
  have er : (plan.flatMap fun t => if (free one t && after one t) = true then [eP (one ++ [t])] else []) = ((plan.filter fun t => free one t && after one t).map fun t => one ++ [t]).map eP := by
    have h1 : ∀ l : List T3, (l.flatMap fun t => if (free one t && after one t) = true then [eP (one ++ [t])] else []) = ((l.filter fun t => free one t && after one t).map fun t => one ++ [t]).map eP := fun l => by
      induction l with
      | nil => rfl
      | cons t l ih =>
        rw [List.flatMap_cons, ih]
        cases h : free one t && after one t with
        | false => rw [List.filter_cons_of_neg (p := fun t => free one t && after one t) (by rw [h]; decide)]; rfl
        | true => rw [List.filter_cons_of_pos (p := fun t => free one t && after one t) h]; rfl
    exact h1 plan
  rw [er]
def dMid : SemS := sSeq (sSet .own 6 (eLst aNil)) (sSeq (sFor (itSeq (eVar 5)) (.one 7) (sSeq (sExtA 6 (eVar 7)) sNil)) (sSeq (sFor (itSeq (eVar 1)) (.one 7) (sSeq (sIf dTest (sSeq (sApp 4 (eOp oAdd (eVar 5) (eTup (aCons (eVar 7) aNil)))) sNil) sNil) sNil)) sNil))
theorem day_mid (n : Nat) (plan : List T3) (hp : plan.length ≤ 20) (some' : List (List T3)) (hs : some'.length ≤ 5000) (ho : ∀ one ∈ some', one.length ≤ 100) (c3 c5 c6 c7 : Option Cell) (S : Sto) :
    ∃ c5' c6' c7', forGo (.one 5) dMid (some'.map eP) (dE n plan some' c3 (some (.own [])) c5 c6 c7) S = some (.nx, dE n plan some' c3 (some (.own ((grow plan some').map eP))) c5' c6' c7', S) := by
  have hL : LIM = 1000000 := rfl
  let f : List T3 → List PyData := fun one => ((plan.filter fun t => free one t && after one t).map fun t => one ++ [t]).map eP
  have hf : ∀ one, (f one).length ≤ 20 := fun one => by
    show (List.map eP _).length ≤ 20
    rw [List.length_map, List.length_map]
    exact Nat.le_trans (List.length_filter_le _ _) hp
  have hlen : (some'.flatMap f).length ≤ 20 * some'.length := flat_len f 20 _ fun o _ => hf o
  obtain ⟨c', e⟩ := for_acc (γ := Option Cell × Option Cell × Option Cell) (tg := .one 5) (S := S) (body := dMid) (fun acc c => dE n plan some' c3 (some (.own acc)) c.1 c.2.1 c.2.2) eP f 100000 some' [] (c5, c6, c7) (by simp only [List.length_nil]; omega) (fun acc c one hone hb => by
    obtain ⟨c7a, ea⟩ := gather S 6 7 (fun a c => dE n plan some' c3 (some (.own acc)) (uP one) (some (.own a)) c) (fun _ _ _ => rfl) (fun _ _ => rfl) (fun _ _ => rfl) (fun _ _ _ => rfl) one (ho one hone) [] (by simp) c.2.2
    rw [List.nil_append] at ea
    obtain ⟨c7b, eb⟩ := day_inner n plan hp some' c3 one (ho one hone) acc (by omega) c7a S
    refine ⟨[(5, eP one)], (uP one, oI (plL one), c7b), rfl, ?_⟩
    have hst : setD (dE n plan some' c3 (some (.own acc)) c.1 c.2.1 c.2.2) [(5, eP one)] = dE n plan some' c3 (some (.own acc)) (uP one) c.2.1 c.2.2 := rfl
    rw [hst]
    exact seq_to (S1 := S) (δ1 := dE n plan some' c3 (some (.own acc)) (uP one) (some (.own [])) c.2.2) rfl (seq_to (sFor_of (items := one.map eT) (S1 := S) rfl ea) (seq_to (sFor_of (items := plan.map eT) (S1 := S) rfl eb) rfl)))
  refine ⟨c'.1, c'.2.1, c'.2.2, ?_⟩
  rw [e, List.nil_append]
  have : some'.flatMap f = (grow plan some').map eP := by
    unfold grow
    rw [List.map_flatMap]
  rw [this]
theorem ev_day_list (n : Nat) (hn : 3 ≤ n ∧ n ≤ 9) (plan : List T3) (hp : plan.length ≤ 17) (S : Sto) : m_day_list [.d (.int n), .d (eP plan)] S = some (.ok (.d (.list ((dayL n plan).map eP))), S) := by
  have hL : LIM = 1000000 := rfl
  have few : ∀ k, k ≤ 3 → (levels plan k).length ≤ 17 ^ k := fun k _ => by
    induction k with
    | zero => simp [levels]
    | succ k ih =>
      have := flat_len (fun one => (plan.filter fun t => free one t && after one t).map fun t => one ++ [t]) 17 (levels plan k) fun o _ => by
        rw [List.length_map]
        exact Nat.le_trans (List.length_filter_le _ _) hp
      have ih := ih (by omega)
      show (grow plan (levels plan k)).length ≤ _
      unfold grow
      rw [Nat.pow_succ]
      omega
  have hk : n / 3 ≤ 3 := by omega
  obtain ⟨δ', e, c3, c4, c5, c6, c7, rfl⟩ := for_cnt (tg := .one 3) (S := S) (body := sSeq (sSet .own 4 (eLst aNil)) (sSeq (sFor (itSeq (eVar 2)) (.one 5) dMid) (sFrz 4 (sSeq (sSet .dat 2 (eVar 4)) sNil)))) (fun i δ => ∃ c3 c4 c5 c6 c7, δ = dE n plan (levels plan i) c3 c4 c5 c6 c7) (intsD 0 (n / 3)) 0 (dE n plan [[]] none none none none none) ⟨none, none, none, none, none, rfl⟩ (fun x hx j δ hδ hj => by
    obtain ⟨c3, c4, c5, c6, c7, rfl⟩ := hδ
    have hj3 : j < 3 := by
      have : (intsD 0 (n / 3)).length = n / 3 := by simp [intsD]
      omega
    have hw := few j (by omega)
    have hw2 : (levels plan j).length ≤ 5000 := Nat.le_trans hw (Nat.le_trans (Nat.pow_le_pow_right (by decide) (by omega : j ≤ 2)) (by decide))
    have ht : ∀ one ∈ levels plan j, one.length ≤ 100 := fun one h => by
      have := (levels_len j one h).1
      omega
    obtain ⟨c5', c6', c7', em⟩ := day_mid n plan (by omega) (levels plan j) hw2 ht (some (.u (.d x))) c5 c6 c7 S
    refine ⟨[(3, x)], dE n plan (levels plan (j + 1)) (some (.u (.d x))) (some (.u (.d (.list ((levels plan (j + 1)).map eP))))) c5' c6' c7', rfl, ?_, _, _, _, _, _, rfl⟩
    have hst : setD (dE n plan (levels plan j) c3 c4 c5 c6 c7) [(3, x)] = dE n plan (levels plan j) (some (.u (.d x))) c4 c5 c6 c7 := rfl
    rw [hst]
    exact seq_to (S1 := S) (δ1 := dE n plan (levels plan j) (some (.u (.d x))) (some (.own [])) c5 c6 c7) rfl (seq_to (sFor_of (items := (levels plan j).map eP) (S1 := S) rfl em) rfl))
  have hlen : (intsD 0 (n / 3)).length = n / 3 := by simp [intsD]
  rw [hlen, Nat.zero_add] at e
  unfold m_day_list
  refine fn_rt (δ1 := dE n plan (levels plan (n / 3)) c3 c4 c5 c6 c7) (seq_to (S1 := S) (δ1 := dE n plan [[]] none none none none none) rfl (seq_to (S1 := S) (δ1 := dE n plan (levels plan (n / 3)) c3 c4 c5 c6 c7) ?_ (seq_rt ?_)))
  · refine sFor_of (items := intsD 0 (n / 3)) (S1 := S) ?_ e
    have h0 : eVar 0 (dE n plan [[]] none none none none none) S = some (.ok (.d (.int n)), S) := rfl
    have h1 : (n : Int).fdiv 3 = ((n / 3 : Nat) : Int) := by
      rw [Int.fdiv_eq_ediv_of_nonneg _ (by decide)]
      omega
    have h2 : ((n / 3 : Nat) : Int).natAbs < 2 ^ 40 := by omega
    simp only [ap_itR1, ap_aCons, ap_aNil, ap_eOp, h0, bnd_ok, ap_eC, sp_oFdiv]
    rw [if_pos (by decide)]
    simp only [bnd_ok, h1]
    rw [if_pos h2, Int.toNat_natCast]
  · have hw := few (n / 3) hk
    have hw2 : (levels plan (n / 3)).length ≤ LIM := Nat.le_trans hw (Nat.le_trans (Nat.pow_le_pow_right (by decide) hk) (by decide))
    have el : eLc (itSeq (eVar 2)) [5] (.one 5) (tOf (eCall m_makes_day 2 (aCons (eVar 0) (aCons (eVar 5) aNil)))) (eVar 5) (bor (dE n plan (levels plan (n / 3)) c3 c4 c5 c6 c7)) S = some (.ok (.d (.list ((dayL n plan).map eP))), S) := by
      refine lc_if eP (levels plan (n / 3)) (dayB n) eP rfl hw2 (fun one hone => ⟨[(5, eP one)], rfl, ?_, fun _ => rfl⟩)
      have h0 : eVar 0 (setD (wipeE (bor (dE n plan (levels plan (n / 3)) c3 c4 c5 c6 c7)) [5]) [(5, eP one)]) S = some (.ok (.d (.int n)), S) := rfl
      have h5 : eVar 5 (setD (wipeE (bor (dE n plan (levels plan (n / 3)) c3 c4 c5 c6 c7)) [5]) [(5, eP one)]) S = some (.ok (.d (eP one)), S) := rfl
      have := ev_makes_day n hn.2 one (by have := (levels_len _ one hone).1; omega) S
      simp only [ap_tOf, ap_eCall, ap_aCons, ap_aNil, h0, h5, bnd_ok, List.length_cons, List.length_nil, Nat.zero_add, Nat.reduceAdd, if_true, this]
    rw [ap_sRet, el]
theorem ev_days_in (n : Nat) (hn : 3 ≤ n ∧ n ≤ 9) (plan : List T3) (hs : standsB n plan = true) (S : Sto) : m_days_in [.d (.int n), .d (eP plan)] S = some (.ok (.d (.list ((dayL n plan).map eP))), S) := by
  have g := (stands_iff.mp hs).1
  have hm := good_max hn g
  have hp : plan.length ≤ 12 := Nat.le_trans hm (by
    have : n = 3 ∨ n = 4 ∨ n = 5 ∨ n = 6 ∨ n = 7 ∨ n = 8 ∨ n = 9 := by omega
    rcases this with rfl | rfl | rfl | rfl | rfl | rfl | rfl <;> decide)
  have e1 := ev_check_plan n hn plan (by omega) S
  rw [if_pos hs] at e1
  unfold m_days_in
  simp [e1, ev_day_list n hn plan (by omega)]
end PM
set_option maxHeartbeats 400000
/-! The days by the law. -/
namespace PM
open PySem DL PySem.W
theorem pl_snoc (l : List T3) (t : T3) : plL (l ++ [t]) = plL l ++ plT t := by
  unfold plL
  rw [List.flatMap_append]
  simp
/-! ### which of them are days -/
structure LvOk (n : Nat) (plan : List T3) (d : List T3) : Prop where
  up : Up d
  nd : (plL d).Nodup
  sub : ∀ t ∈ d, t ∈ plan
theorem after_all {d : List T3} {t : T3} (up : Up d) (h : after d t = true) : ∀ s ∈ d, ltT s t = true := fun s hs => by
  rcases last_cases d with rfl | ⟨l, x, rfl⟩
  · exact nomatch hs
  · rw [after_last] at h
    rcases List.mem_append.mp hs with z | z
    · exact ltT_trans ((List.pairwise_append.mp up).2.2 s z x (by simp)) h
    · rw [List.mem_singleton.mp z]
      exact h
theorem levels_ok {n : Nat} {plan : List T3} (g : ∀ t ∈ plan, okT n t = true) : ∀ (k : Nat) (d : List T3), d ∈ levels plan k → LvOk n plan d
  | 0, d, h => by
    rw [levels, List.mem_singleton] at h
    subst h
    exact ⟨List.Pairwise.nil, List.nodup_nil, fun _ h => nomatch h⟩
  | k + 1, d, h => by
    obtain ⟨o, ho, h2⟩ := List.mem_flatMap.mp h
    obtain ⟨t, ht, rfl⟩ := List.mem_map.mp h2
    obtain ⟨ht1, ht2⟩ := List.mem_filter.mp ht
    rw [Bool.and_eq_true] at ht2
    have ih := levels_ok g k o ho
    refine ⟨List.pairwise_append.mpr ⟨ih.up, List.pairwise_singleton _ _, fun s hs x hx => by rw [List.mem_singleton.mp hx]; exact after_all ih.up ht2.2 s hs⟩, ?_, fun s hs => ?_⟩
    · rw [pl_snoc]
      refine List.nodup_append.mpr ⟨ih.nd, ?_, fun p hp q hq e => ?_⟩
      · have h := okT_iff.mp (g t ht1)
        simp only [plT, List.nodup_cons, List.mem_cons, List.not_mem_nil, or_false, not_false_eq_true, List.nodup_nil, and_true]
        omega
      · subst e
        have hf := ht2.1
        unfold free at hf
        rw [Bool.not_eq_true', ← Bool.not_eq_true, List.any_eq_true] at hf
        exact hf ⟨p, hq, List.any_eq_true.mpr ⟨p, hp, by simp⟩⟩
    · rcases List.mem_append.mp hs with z | z
      · exact ih.sub s z
      · rw [List.mem_singleton.mp z]
        exact ht1
theorem pl_lt {n : Nat} {d : List T3} (g : ∀ t ∈ d, okT n t = true) {p : Nat} (hp : p ∈ plL d) : p < n := by
  obtain ⟨t, ht, h⟩ := List.mem_flatMap.mp hp
  have := okT_iff.mp (g t ht)
  simp only [plT, List.mem_cons, List.not_mem_nil, or_false] at h
  omega
theorem day_of {n : Nat} {plan d : List T3} (g : ∀ t ∈ plan, okT n t = true) (h : LvOk n plan d) : dayB n d = decide (3 * d.length = n) := by
  have gd : ∀ t ∈ d, okT n t = true := fun t ht => g t (h.sub t ht)
  unfold dayB
  rw [List.all_eq_true.mpr gd, sort_id h.up, decide_eq_true rfl, Bool.and_true, Bool.true_and]
  refine decide_eq_decide.mpr ⟨fun e => ?_, fun e => ?_⟩
  · have := congrArg List.length e
    rw [(isort_perm (le := leN) (plL d)).length_eq, pl_len, List.length_range] at this
    exact this
  · exact (names_of h.nd (by rw [pl_len]; exact e) fun x hx => pl_lt gd hx).sorted
end PM
set_option maxHeartbeats 400000
/-! Plans put into days: all ways, in their order. -/
namespace PM
open PySem DL PySem.W
abbrev Dy := List T3
def fitsD (left : List T3) (d : Dy) : Bool := match left with
  | [] => false
  | t :: _ => decide (t ∈ d) && d.all fun s => decide (s ∈ left)
def rest (left : List T3) (d : Dy) : List T3 := left.filter fun s => !decide (s ∈ d)
def cov (days : List Dy) : Nat → List T3 → List (List Dy)
  | _, [] => [[]]
  | 0, _ :: _ => []
  | k + 1, t :: r => (days.filter (fitsD (t :: r))).flatMap fun d => (cov days k (rest (t :: r) d)).map (d :: ·)
theorem rest_lt {t : T3} {r : List T3} {d : Dy} (h : fitsD (t :: r) d = true) : (rest (t :: r) d).length ≤ r.length := by
  unfold fitsD at h
  rw [Bool.and_eq_true] at h
  unfold rest
  rw [List.filter_cons_of_neg (by rw [h.1]; decide)]
  exact List.length_filter_le _ _
theorem cov_fuel (days : List Dy) : ∀ (k : Nat) (left : List T3), left.length ≤ k → cov days k left = cov days left.length left
  | k, [], _ => by cases k <;> rfl
  | 0, _ :: _, h => absurd h (by simp)
  | k + 1, t :: r, h => by
    rw [List.length_cons] at h
    show (days.filter (fitsD (t :: r))).flatMap (fun d => (cov days k (rest (t :: r) d)).map (d :: ·)) = (days.filter (fitsD (t :: r))).flatMap fun d => (cov days r.length (rest (t :: r) d)).map (d :: ·)
    refine flat_congr fun d hd => ?_
    have hl := rest_lt (List.mem_filter.mp hd).2
    rw [cov_fuel days k _ (by omega), cov_fuel days r.length _ hl]
def covA (days : List Dy) (left : List T3) : List (List Dy) := cov days left.length left
theorem covA_nil (days : List Dy) : covA days [] = [[]] := rfl
theorem covA_cons (days : List Dy) (t : T3) (r : List T3) : covA days (t :: r) = (days.filter (fitsD (t :: r))).flatMap fun d => (covA days (rest (t :: r) d)).map (d :: ·) := by
  show (days.filter (fitsD (t :: r))).flatMap (fun d => (cov days r.length (rest (t :: r) d)).map (d :: ·)) = _
  refine flat_congr fun d hd => ?_
  rw [cov_fuel days r.length _ (rest_lt (List.mem_filter.mp hd).2)]
  rfl
/-! ### the order of the days -/
theorem lex_app {α : Type} [DecidableEq α] {lt : α → α → Bool} : ∀ {l m : List α}, l.length = m.length → lexB lt l m = true → ∀ a b, lexB lt (l ++ a) (m ++ b) = true
  | [], [], _, h, _, _ => nomatch h
  | [], _ :: _, h, _, _, _ => nomatch h
  | _ :: _, [], h, _, _, _ => nomatch h
  | x :: l, y :: m, hl, h, a, b => by
    rw [List.cons_append, List.cons_append]
    unfold lexB at h ⊢
    by_cases e : x = y
    · rw [if_pos e] at h ⊢
      exact lex_app (by simpa using hl) h a b
    · rw [if_neg e] at h ⊢
      exact h
theorem lex_same {α : Type} [DecidableEq α] {lt : α → α → Bool} : ∀ (l a b : List α), lexB lt (l ++ a) (l ++ b) = lexB lt a b
  | [], _, _ => rfl
  | x :: l, a, b => by
    rw [List.cons_append, List.cons_append]
    show (if x = x then _ else _) = _
    rw [if_pos rfl, lex_same l a b]
theorem levels_pw {plan : List T3} (up : Up plan) : ∀ k, (levels plan k).Pairwise fun a b => ltP' a b = true
  | 0 => List.pairwise_singleton _ _
  | k + 1 => by
    refine pw_flat _ (fun one _ => ?_) ?_
    · rw [List.pairwise_map]
      refine (up.filter _).imp fun {s t} h => ?_
      show lexB ltT (one ++ [s]) (one ++ [t]) = true
      rw [lex_same]
      unfold lexB
      rw [if_neg (ltT_ne h)]
      exact h
    · refine (List.Pairwise.and_mem.mp (levels_pw up k)).imp fun {a b} ⟨ha, hb, h⟩ x hx y hy => ?_
      obtain ⟨s, _, rfl⟩ := List.mem_map.mp hx
      obtain ⟨t, _, rfl⟩ := List.mem_map.mp hy
      exact lex_app (by rw [(levels_len k a ha).1, (levels_len k b hb).1]) h _ _
theorem dayL_pw {n : Nat} {plan : List T3} (up : Up plan) : (dayL n plan).Pairwise fun a b => ltP' a b = true := (levels_pw up _).filter _
theorem ltP_ne {a b : List T3} (h : ltP' a b = true) : a ≠ b := fun e => by
  subst e
  rw [ltP_irr] at h
  cases h
/-- what the days are like -/
structure DysOk (days : List Dy) : Prop where
  up : ∀ d ∈ days, Up d
  ne : ∀ d ∈ days, d ≠ []
/-! ### how many -/
end PM
set_option maxHeartbeats 400000
/-! Plans put into days, walked. -/
namespace PM
open PySem DL PySem.W
abbrev NdD := List Dy × List T3
def eND (x : NdD) : PyData := .tuple [.list (x.1.map eP), .list (x.2.map eT)]
def kid (x : NdD) (d : Dy) : NdD := (x.1 ++ [d], rest x.2 d)
abbrev uD (l : List Dy) : Option Cell := some (.u (.d (.list (l.map eP))))
theorem dec_eq {p : Prop} (i j : Decidable p) : @decide p i = @decide p j := by
  rw [Bool.eq_iff_iff, @decide_eq_true_iff p i, @decide_eq_true_iff p j]
theorem inP_P (t : T3) (d : Dy) : inP (eT t) (eP d) = some (decide (t ∈ d)) := (inP_tup eqe_T d t (dok_T t)).trans (congrArg some (dec_eq _ _))
theorem notInP_P (t : T3) (d : Dy) : notInP (eT t) (eP d) = some (!decide (t ∈ d)) := (notInP_tup eqe_T d t (dok_T t)).trans (congrArg (fun b => some (!b)) (dec_eq _ _))
theorem inP_L (t : T3) (d : List T3) : inP (eT t) (.list (d.map eT)) = some (decide (t ∈ d)) := (inP_list eqe_T d t (dok_T t)).trans (congrArg some (dec_eq _ _))
theorem flat_filter_map {α : Type} (p : α → Bool) (e : α → PyData) : ∀ l : List α, (l.flatMap fun x => if p x = true then [e x] else []) = (l.filter p).map e
  | [] => rfl
  | x :: l => by
    rw [List.flatMap_cons, flat_filter_map p e l]
    cases h : p x with
    | false => rw [List.filter_cons_of_neg (by rw [h]; decide)]; rfl
    | true => rw [List.filter_cons_of_pos h]; rfl
/-! ### the program's -/
def iE (n : Nat) (plan : List T3) (days : List Dy) (line : List PyData) (c4 c5 c6 : Option Cell) : En := [some (.u (.d (.int n))), some (.u (.d (eP plan))), uD days, some (.own line), c4, c5, c6, none]
def iTest : SemT := tAndS (tOf (eOp (cD inP) (eOp oIx (eVar 5) (eC (.int 0))) (eVar 6))) (tOf (eBc oAll (aCons (eLc (itSeq (eVar 6)) [7] (.one 7) tTrue (eOp (cD inP) (eVar 7) (eVar 5))) aNil)))
def iIn : SemS := sSeq (sIf iTest (sSeq (sApp 3 (eTup (aCons (eOp oAdd (eVar 4) (eLst (aCons (eVar 6) aNil))) (aCons (eLc (itSeq (eVar 5)) [7] (.one 7) (tOf (eOp (cD notInP) (eVar 7) (eVar 6))) (eVar 7)) aNil)))) sNil) sNil) sNil
theorem i_push (n : Nat) (plan : List T3) (days : List Dy) (hdl : ∀ d ∈ days, d.length ≤ 100) (found : List Dy) (hf : found.length ≤ 100) (t : T3) (r : List T3) (hr : r.length ≤ 100) (ds : List Dy) (hds : ds.length ≤ 10000) (hsub : ∀ d ∈ ds, d ∈ days) (acc : List PyData) (ha : acc.length ≤ 500000) (c6 : Option Cell) (S : Sto) :
    ∃ c6', forGo (.one 6) iIn (ds.map eP) (iE n plan days acc (uD found) (uL (t :: r)) c6) S = some (.nx, iE n plan days (acc ++ ((ds.filter (fitsD (t :: r))).map (kid (found, t :: r))).map eND) (uD found) (uL (t :: r)) c6', S) := by
  have hL : LIM = 1000000 := rfl
  have hlen : (ds.flatMap fun d => if fitsD (t :: r) d = true then [eND (kid (found, t :: r) d)] else []).length ≤ 1 * ds.length := flat_len _ 1 _ fun t _ => by split <;> simp
  obtain ⟨c', e⟩ := for_acc (γ := Option Cell) (tg := .one 6) (S := S) (body := iIn) (fun acc c6 => iE n plan days acc (uD found) (uL (t :: r)) c6) eP (fun d => if fitsD (t :: r) d = true then [eND (kid (found, t :: r) d)] else []) 600000 ds acc c6 (Nat.le_trans (Nat.add_le_add ha hlen) (by omega)) (fun acc c d hd hb => by
    refine ⟨[(6, eP d)], uP d, rfl, ?_⟩
    have hs : setD (iE n plan days acc (uD found) (uL (t :: r)) c) [(6, eP d)] = iE n plan days acc (uD found) (uL (t :: r)) (uP d) := rfl
    have hdd := hdl d (hsub d hd)
    have h5 : eVar 5 (bor (iE n plan days acc (uD found) (uL (t :: r)) (uP d))) S = some (.ok (.d (.list (eT t :: r.map eT))), S) := rfl
    have h6 : eVar 6 (bor (iE n plan days acc (uD found) (uL (t :: r)) (uP d))) S = some (.ok (.d (eP d)), S) := rfl
    have el : eLc (itSeq (eVar 6)) [7] (.one 7) tTrue (eOp (cD inP) (eVar 7) (eVar 5)) (bor (iE n plan days acc (uD found) (uL (t :: r)) (uP d))) S = some (.ok (.d (.list (d.map fun s => .bool (decide (s ∈ t :: r))))), S) := by
      refine lc_map eT d (fun s => .bool (decide (s ∈ t :: r))) rfl (by omega) (fun s hs => ⟨[(7, eT s)], rfl, ?_⟩)
      have h7 : eVar 7 (setD (wipeE (bor (iE n plan days acc (uD found) (uL (t :: r)) (uP d))) [7]) [(7, eT s)]) S = some (.ok (.d (eT s)), S) := rfl
      have h5 : eVar 5 (setD (wipeE (bor (iE n plan days acc (uD found) (uL (t :: r)) (uP d))) [7]) [(7, eT s)]) S = some (.ok (.d (.list ((t :: r).map eT))), S) := rfl
      simp only [ap_eOp, h7, h5, bnd_ok, sp_cD, inP_L]
    have et : iTest (bor (iE n plan days acc (uD found) (uL (t :: r)) (uP d))) S = some (.ok (fitsD (t :: r) d), S) := by
      unfold iTest
      rw [ap_tAndS, ap_tOf, ap_eOp, ap_eOp, h5]
      simp only [bnd_ok, ap_eC, sp_oIx1, at_zero, h6, sp_cD, inP_P, ap_tOf, ap_eBc, ap_aCons, ap_aNil, el, oAll_map]
      show _ = some (Except.ok (decide (t ∈ d) && d.all fun s => decide (s ∈ t :: r)), S)
      cases decide (t ∈ d) <;> rfl
    rw [hs]
    unfold iIn
    rw [ap_sSeq, ap_sIf, et]
    cases fitsD (t :: r) d with
    | false => simp
    | true =>
      have g4 : eVar 4 (iE n plan days acc (uD found) (uL (t :: r)) (uP d)) S = some (.ok (.d (.list (found.map eP))), S) := rfl
      have g6 : eVar 6 (iE n plan days acc (uD found) (uL (t :: r)) (uP d)) S = some (.ok (.d (eP d)), S) := rfl
      have h3 : (iE n plan days acc (uD found) (uL (t :: r)) (uP d))[3]? = some (some (.own acc)) := rfl
      have ec : eLc (itSeq (eVar 5)) [7] (.one 7) (tOf (eOp (cD notInP) (eVar 7) (eVar 6))) (eVar 7) (iE n plan days acc (uD found) (uL (t :: r)) (uP d)) S = some (.ok (.d (.list ((rest (t :: r) d).map eT))), S) := by
        refine lc_if eT (t :: r) (fun s => !decide (s ∈ d)) eT rfl (by simp only [List.length_cons]; omega) (fun s hs => ⟨[(7, eT s)], rfl, ?_, fun _ => rfl⟩)
        have h7 : eVar 7 (setD (wipeE (iE n plan days acc (uD found) (uL (t :: r)) (uP d)) [7]) [(7, eT s)]) S = some (.ok (.d (eT s)), S) := rfl
        have h6 : eVar 6 (setD (wipeE (iE n plan days acc (uD found) (uL (t :: r)) (uP d)) [7]) [(7, eT s)]) S = some (.ok (.d (eP d)), S) := rfl
        simp only [ap_tOf, ap_eOp, h7, h6, bnd_ok, sp_cD, notInP_P]
      have hadd : oAdd (.d (.list (found.map eP))) (.d (.list [eP d])) = some (.d (.list ((found ++ [d]).map eP))) := by
        rw [sp_oAdd2, if_pos (by rw [List.length_map, List.length_singleton]; omega), List.map_append]
        rfl
      have ea : sApp 3 (eTup (aCons (eOp oAdd (eVar 4) (eLst (aCons (eVar 6) aNil))) (aCons (eLc (itSeq (eVar 5)) [7] (.one 7) (tOf (eOp (cD notInP) (eVar 7) (eVar 6))) (eVar 7)) aNil))) (iE n plan days acc (uD found) (uL (t :: r)) (uP d)) S = some (.nx, iE n plan days (acc ++ [eND (kid (found, t :: r) d)]) (uD found) (uL (t :: r)) (uP d), S) := by
        rw [ap_sApp, h3]
        simp only [ap_eTup, ap_eOp oAdd, ap_eLst, ap_aCons, ap_aNil, g4, g6, ec, bnd_ok, sp_allD1, sp_allD0, List.length_cons, List.length_nil, Nat.zero_add, Nat.reduceAdd, Nat.reduceLeDiff, if_true, hadd]
        rw [if_pos (by omega)]
        rfl
      simp only [seq_nx ea, if_true]
      rfl)
  refine ⟨c', ?_⟩
  rw [e, flat_filter_map (fitsD (t :: r)) (fun d => eND (kid (found, t :: r) d)), List.map_map]
  rfl
def iBody : SemS := sSeq (sPop 3 (.tup [4, 5])) (sSeq (sIf (tOf (eOp (cD eqP) (eVar 5) (eLst aNil))) (sSeq (sRet (eVar 4)) sNil) sNil) (sSeq (sFor (itSeq (eRev (eVar 2))) (.one 6) iIn) sNil))
def wD (D : Nat) (st : List NdD) : Nat := (st.map fun x => (D + 2) ^ x.2.length).sum
def JD (D K : Nat) : List NdD → Prop
  | [] => True
  | x :: st => x.2.length ≤ K ∧ st.length ≤ D * (K - x.2.length) ∧ JD D K st
theorem jd_push {D K m : Nat} : ∀ (l st : List NdD), (∀ x ∈ l, x.2.length ≤ m) → m < K → JD D K st → st.length + l.length ≤ D * (K - m) + 1 → JD D K (l ++ st)
  | [], st, _, _, h, _ => h
  | x :: l, st, hx, hm, h, hl => by
    have h1 := hx x List.mem_cons_self
    rw [List.length_cons] at hl
    refine ⟨by omega, ?_, jd_push l st (fun y hy => hx y (List.mem_cons_of_mem _ hy)) hm h (by omega)⟩
    show (l ++ st).length ≤ _
    rw [List.length_append]
    have : D * (K - m) ≤ D * (K - x.2.length) := Nat.mul_le_mul_left _ (by omega)
    omega
theorem wD_le (D m : Nat) : ∀ l : List NdD, (∀ x ∈ l, x.2.length ≤ m) → wD D l ≤ l.length * (D + 2) ^ m
  | [], _ => by simp [wD]
  | x :: l, h => by
    have h1 := wD_le D m l fun y hy => h y (List.mem_cons_of_mem _ hy)
    have h2 : (D + 2) ^ x.2.length ≤ (D + 2) ^ m := Nat.pow_le_pow_right (by omega) (h x List.mem_cons_self)
    show (D + 2) ^ x.2.length + wD D l ≤ _
    rw [List.length_cons, Nat.succ_mul]
    omega
theorem wD_app (D : Nat) (l m : List NdD) : wD D (l ++ m) = wD D l + wD D m := by
  unfold wD
  rw [List.map_append, List.sum_append]
def resN (days : List Dy) (x : NdD) : List (List Dy) := (covA days x.2).map (x.1 ++ ·)
theorem resN_kids (days : List Dy) (found : List Dy) (t : T3) (r : List T3) : ((days.filter (fitsD (t :: r))).map (kid (found, t :: r))).flatMap (resN days) = resN days (found, t :: r) := by
  unfold resN
  rw [flatMap_map']
  show _ = (covA days (t :: r)).map (found ++ ·)
  rw [covA_cons, List.map_flatMap]
  refine flat_congr fun d _ => ?_
  rw [List.map_map]
  refine List.map_congr_left fun c _ => ?_
  show (found ++ [d]) ++ c = found ++ (d :: c)
  rw [List.append_assoc]
  rfl
theorem ev_popD {FE : List PyData → Option Cell → Option Cell → En} (h3 : ∀ ln c4 c5, (FE ln c4 c5)[3]? = some (some (.own ln))) (hset : ∀ (ln ln' : List PyData) c4 c5 a b, setD ((FE ln c4 c5).set 3 (some (.own ln'))) [(4, a), (5, b)] = FE ln' (some (.u (.d a))) (some (.u (.d b)))) (ln : List PyData) (x : NdD) (c4 c5 : Option Cell) (S : Sto) : sPop 3 (.tup [4, 5]) (FE (ln ++ [eND x]) c4 c5) S = some (.nx, FE ln (uD x.1) (uL x.2), S) := by
  rw [ap_sPop, h3]
  simp only [pop_last, List.dropLast_concat]
  have hs : Tg.split (.tup [4, 5]) (eND x) = some [(4, .list (x.1.map eP)), (5, .list (x.2.map eT))] := rfl
  simp only [hs, hset]
theorem into_loop (n : Nat) (plan : List T3) (days : List Dy) (hD : days.length ≤ 10000) (hdl : ∀ d ∈ days, d.length ≤ 100) (S : Sto) : ∀ (fuel : Nat) (st : List NdD) (c4 c5 c6 : Option Cell), wD days.length st < fuel → JD days.length 20 st → (∀ x ∈ st, x.1.length + x.2.length ≤ 20) →
    (∃ x r δ', st.flatMap (resN days) = x :: r ∧ whGo (tOf (eOp (cD neP) (eVar 3) (eLst aNil))) iBody fuel (iE n plan days (st.reverse.map eND) c4 c5 c6) S = some (.rt (.d (.list (x.map eP))), δ', S)) ∨
    (st.flatMap (resN days) = [] ∧ ∃ δ', whGo (tOf (eOp (cD neP) (eVar 3) (eLst aNil))) iBody fuel (iE n plan days (st.reverse.map eND) c4 c5 c6) S = some (.nx, δ', S))
  | 0, _, _, _, _, h, _, _ => absurd h (Nat.not_lt_zero _)
  | fuel + 1, [], c4, c5, c6, _, _, _ => by
    right
    have := wh_test (i := 3) (δ := iE n plan days [] c4 c5 c6) (S := S) eND [] rfl
    exact ⟨rfl, _, wh_stop this⟩
  | fuel + 1, (found, left) :: st, c4, c5, c6, hw, hj, hl => by
    have hL : LIM = 1000000 := rfl
    obtain ⟨j1, j2, j3⟩ := hj
    simp only at j1 j2
    have hrev : ((found, left) :: st).reverse.map eND = st.reverse.map eND ++ [eND (found, left)] := by simp
    have hc := wh_test (i := 3) (δ := iE n plan days (((found, left) :: st).reverse.map eND) c4 c5 c6) (S := S) eND (((found, left) :: st).reverse) rfl
    rw [decide_eq_false (by simp)] at hc
    have hw' : (days.length + 2) ^ left.length + wD days.length st < fuel + 1 := hw
    have hfl := hl (found, left) List.mem_cons_self
    simp only at hfl
    have ep := ev_popD (FE := fun ln c4 c5 => iE n plan days ln c4 c5 c6) (fun _ _ _ => rfl) (fun _ _ _ _ _ _ => rfl) (st.reverse.map eND) (found, left) c4 c5 S
    cases left with
    | nil =>
      left
      refine ⟨found, st.flatMap (resN days), iE n plan days (st.reverse.map eND) (uD found) (uL []) c6, ?_, ?_⟩
      · rw [List.flatMap_cons]
        show ([[]].map (found ++ ·)) ++ _ = _
        simp
      · rw [hrev] at hc ⊢
        refine wh_rt hc (seq_to ep (seq_rt ?_))
        have e1 : eqP (.list []) (.list []) = some true := rfl
        have h5 : eVar 5 (bor (iE n plan days (st.reverse.map eND) (uD found) (uL []) c6)) S = some (.ok (.d (.list [])), S) := rfl
        rw [ap_sIf]
        simp only [ap_tOf, ap_eOp, h5, bnd_ok, ap_eLst, ap_aNil, sp_allD0, List.length_nil, Nat.zero_le, if_true, sp_cD, e1]
        rfl
    | cons t r =>
      simp only [List.length_cons] at j1 j2 hw' hfl
      have hst : st.length ≤ 300000 := by
        have : days.length * (20 - (r.length + 1)) ≤ 10000 * 20 := Nat.mul_le_mul hD (by omega)
        omega
      obtain ⟨c6', e2⟩ := i_push n plan days hdl found (by omega) t r (by omega) days.reverse (by rw [List.length_reverse]; exact hD) (fun d hd => List.mem_reverse.mp hd) (st.reverse.map eND) (by rw [List.length_map, List.length_reverse]; omega) c6 S
      have klen : ∀ y ∈ (days.filter (fitsD (t :: r))).map (kid (found, t :: r)), y.2.length ≤ r.length ∧ y.1.length + y.2.length ≤ 20 := fun y hy => by
        obtain ⟨d, hd, rfl⟩ := List.mem_map.mp hy
        have h1 := rest_lt (List.mem_filter.mp hd).2
        refine ⟨h1, ?_⟩
        show (found ++ [d]).length + (rest (t :: r) d).length ≤ 20
        rw [List.length_append, List.length_singleton]
        omega
      have hkl : ((days.filter (fitsD (t :: r))).map (kid (found, t :: r))).length ≤ days.length := by
        rw [List.length_map]
        exact List.length_filter_le _ _
      have hw2 : wD days.length ((days.filter (fitsD (t :: r))).map (kid (found, t :: r)) ++ st) < fuel := by
        rw [wD_app]
        have h1 := wD_le days.length r.length _ fun y hy => (klen y hy).1
        have h2 : ((days.filter (fitsD (t :: r))).map (kid (found, t :: r))).length * (days.length + 2) ^ r.length ≤ days.length * (days.length + 2) ^ r.length := Nat.mul_le_mul_right _ hkl
        have hp : (days.length + 2) ^ (r.length + 1) = days.length * (days.length + 2) ^ r.length + 2 * (days.length + 2) ^ r.length := by rw [Nat.pow_succ, Nat.mul_comm, Nat.add_mul]
        have hpos : 0 < (days.length + 2) ^ r.length := Nat.pow_pos (by omega)
        omega
      have hj2 : JD days.length 20 ((days.filter (fitsD (t :: r))).map (kid (found, t :: r)) ++ st) := jd_push (m := r.length) _ _ (fun y hy => (klen y hy).1) (by omega) j3 (by
        have : days.length * (20 - r.length) = days.length * (20 - (r.length + 1)) + days.length := by
          rw [show 20 - r.length = (20 - (r.length + 1)) + 1 by omega, Nat.mul_succ]
        omega)
      have ih := into_loop n plan days hD hdl S fuel ((days.filter (fitsD (t :: r))).map (kid (found, t :: r)) ++ st) (uD found) (uL (t :: r)) c6' hw2 hj2 (fun y hy => by
        rcases List.mem_append.mp hy with z | z
        · exact (klen y z).2
        · exact hl y (List.mem_cons_of_mem _ z))
      have hb : iBody (iE n plan days (st.reverse.map eND ++ [eND (found, t :: r)]) c4 c5 c6) S = some (.nx, iE n plan days (((days.filter (fitsD (t :: r))).map (kid (found, t :: r)) ++ st).reverse.map eND) (uD found) (uL (t :: r)) c6', S) := by
        refine seq_to ep (seq_to (S1 := S) (δ1 := iE n plan days (st.reverse.map eND) (uD found) (uL (t :: r)) c6) ?_ (seq_to (sFor_of (items := days.reverse.map eP) (S1 := S) ?_ e2) ?_))
        · have e1 : eqP (.list ((t :: r).map eT)) (.list []) = some false := by rw [eq_nil]; rfl
          have h5 : eVar 5 (bor (iE n plan days (st.reverse.map eND) (uD found) (uL (t :: r)) c6)) S = some (.ok (.d (.list ((t :: r).map eT))), S) := rfl
          rw [ap_sIf]
          simp only [ap_tOf, ap_eOp, h5, bnd_ok, ap_eLst, ap_aNil, sp_allD0, List.length_nil, Nat.zero_le, if_true, sp_cD, e1]
          rfl
        · have h2 : eVar 2 (iE n plan days (st.reverse.map eND) (uD found) (uL (t :: r)) c6) S = some (.ok (.d (.list (days.map eP))), S) := rfl
          simp only [ap_itSeq, ap_eRev, h2, bnd_ok]
          rw [List.map_reverse]
        · have hx : st.reverse.map eND ++ ((days.reverse.filter (fitsD (t :: r))).map (kid (found, t :: r))).map eND = ((days.filter (fitsD (t :: r))).map (kid (found, t :: r)) ++ st).reverse.map eND := by
            simp [List.filter_reverse, List.map_reverse, List.reverse_append, List.map_append]
          rw [hx]
          rfl
      have hfm : ((found, t :: r) :: st).flatMap (resN days) = ((days.filter (fitsD (t :: r))).map (kid (found, t :: r)) ++ st).flatMap (resN days) := by
        rw [List.flatMap_cons, List.flatMap_append, resN_kids]
      rw [hrev] at hc ⊢
      rw [wh_step hc hb, hfm]
      exact ih
theorem fuel_days {D : Nat} (hD : D ≤ 1728) {l : Nat} (hl : l ≤ 12) : (D + 2) ^ l + 0 < 10000000000000000000000000000000000000000 := by
  have h1 : (D + 2) ^ l ≤ 1730 ^ 12 := Nat.le_trans (Nat.pow_le_pow_left (by omega) l) (Nat.pow_le_pow_right (by decide) hl)
  have h2 : (1730 : Nat) ^ 12 < 10000000000000000000000000000000000000000 := by decide
  omega
theorem gN_le {n : Nat} (hn : 3 ≤ n ∧ n ≤ 9) : gN n ≤ 12 := by
  have : n = 3 ∨ n = 4 ∨ n = 5 ∨ n = 6 ∨ n = 7 ∨ n = 8 ∨ n = 9 := by omega
  rcases this with rfl | rfl | rfl | rfl | rfl | rfl | rfl <;> decide
theorem plan12 {n : Nat} (hn : 3 ≤ n ∧ n ≤ 9) {l : List T3} (g : Good n l) : l.length ≤ 12 := Nat.le_trans (good_max hn g) (gN_le hn)
theorem dayL_few {n : Nat} (hn : n ≤ 9) {plan : List T3} (hp : plan.length ≤ 12) : (dayL n plan).length ≤ 1728 := by
  have few : ∀ k, (levels plan k).length ≤ 12 ^ k := fun k => by
    induction k with
    | zero => simp [levels]
    | succ k ih =>
      have := flat_len (fun one => (plan.filter fun t => free one t && after one t).map fun t => one ++ [t]) 12 (levels plan k) fun o _ => by
        rw [List.length_map]
        exact Nat.le_trans (List.length_filter_le _ _) hp
      show (grow plan (levels plan k)).length ≤ _
      unfold grow
      rw [Nat.pow_succ]
      omega
  have h1 : (dayL n plan).length ≤ (levels plan (n / 3)).length := List.length_filter_le _ _
  exact Nat.le_trans h1 (Nat.le_trans (few (n / 3)) (Nat.le_trans (Nat.pow_le_pow_right (by decide) (by omega : n / 3 ≤ 3)) (by decide)))
theorem dayL_mem {n : Nat} {plan d : List T3} (h : d ∈ dayL n plan) : d.length = n / 3 ∧ dayB n d = true := ⟨(levels_len _ d (List.mem_filter.mp h).1).1, (List.mem_filter.mp h).2⟩
def intoL (n : Nat) (plan : List T3) : List (List Dy) := covA (dayL n plan) plan
theorem ev_into_days (n : Nat) (hn : 3 ≤ n ∧ n ≤ 9) (plan : List T3) (hs : standsB n plan = true) (S : Sto) : m_into_days [.d (.int n), .d (eP plan)] S = match intoL n plan with
    | [] => some (.error 7, S)
    | x :: _ => some (.ok (.d (.list (x.map eP))), S) := by
  have g := (stands_iff.mp hs).1
  have hp := plan12 hn g
  have hD := dayL_few hn.2 hp
  have e1 := ev_check_plan n hn plan (by omega) S
  rw [if_pos hs] at e1
  have e2 := ev_day_list n hn plan (by omega) S
  have hst : [(([] : List Dy), plan)].flatMap (resN (dayL n plan)) = intoL n plan := by
    unfold resN intoL
    simp
  have L := into_loop n plan (dayL n plan) (by omega) (fun d hd => by have := (dayL_mem hd).1; omega) S 10000000000000000000000000000000000000000 [([], plan)] none none none (fuel_days hD hp) ⟨by simp only; omega, by simp, trivial⟩ (fun x hx => by
    rw [List.mem_singleton.mp hx]
    simp only [List.length_nil]
    omega)
  rw [hst] at L
  have s1 : sExpr (eCall m_check_plan 2 (aCons (eVar 0) (aCons (eVar 1) aNil))) (startE 8 [.d (.int n), .d (eP plan)]) S = some (.nx, startE 8 [.d (.int n), .d (eP plan)], S) := by simp [e1]
  have s2 : sSet .dat 2 (eCall m_day_list 2 (aCons (eVar 0) (aCons (eVar 1) aNil))) (startE 8 [.d (.int n), .d (eP plan)]) S = some (.nx, [some (.u (.d (.int n))), some (.u (.d (eP plan))), uD (dayL n plan), none, none, none, none, none], S) := by simp [e2]
  have s3 : sSet .own 3 (eLst (aCons (eTup (aCons (eLst aNil) (aCons (eBc oList (aCons (eVar 1) aNil)) aNil))) aNil)) [some (.u (.d (.int n))), some (.u (.d (eP plan))), uD (dayL n plan), none, none, none, none, none] S = some (.nx, iE n plan (dayL n plan) [eND ([], plan)] none none none, S) := rfl
  unfold m_into_days
  rcases L with ⟨x, r, δ', h1, h2⟩ | ⟨h1, δ', h2⟩
  · rw [h1]
    exact fn_rt (seq_to s1 (seq_to s2 (seq_to s3 (seq_rt h2))))
  · rw [h1]
    exact fn_ex (δ1 := δ') (seq_to s1 (seq_to s2 (seq_to s3 (seq_to h2 (seq_ex rfl)))))
end PM
set_option maxHeartbeats 400000
/-! All ways to put a plan into days, by the law. -/
namespace PM
open PySem DL PySem.W
/-! ### sorted -/
end PM
set_option maxHeartbeats 400000
/-! Days: of one day, of six players, of full plans for nine. -/
namespace PM
open PySem DL PySem.W
theorem free_iff {one : List T3} {t : T3} : free one t = true ↔ ∀ p ∈ plT t, p ∉ plL one := by
  unfold free
  rw [Bool.not_eq_true', ← Bool.not_eq_true, List.any_eq_true]
  constructor
  · intro h p hp hq
    exact h ⟨p, hp, List.any_eq_true.mpr ⟨p, hq, by simp⟩⟩
  · rintro h ⟨p, hp, hq⟩
    obtain ⟨q, hq1, hq2⟩ := List.any_eq_true.mp hq
    rw [Nat.eq_of_beq_eq_true hq2] at hq1
    exact h p hp hq1
theorem take_levels {plan d : List T3} (up : Up d) (nd : (plL d).Nodup) (sub : ∀ t ∈ d, t ∈ plan) : ∀ k, k ≤ d.length → d.take k ∈ levels plan k
  | 0, _ => by
    rw [List.take_zero]
    exact List.mem_singleton.mpr rfl
  | k + 1, hk => by
    have ih := take_levels up nd sub k (by omega)
    have hlt : k < d.length := by omega
    have e : d.take (k + 1) = d.take k ++ [d[k]] := by rw [List.take_succ, List.getElem?_eq_getElem hlt]; rfl
    have hsub : d.take k ++ [d[k]] = d.take (k + 1) := e.symm
    have hup : Up (d.take k ++ [d[k]]) := by rw [hsub]; exact List.Pairwise.sublist (List.take_sublist _ _) up
    have hnd : (plL (d.take k ++ [d[k]])).Nodup := by
      rw [hsub]
      have : (plL (d.take (k + 1))).Sublist (plL d) := by
        unfold plL
        rw [← List.take_append_drop (k + 1) d, List.flatMap_append]
        conv => lhs; rw [List.take_append_drop]
        exact List.sublist_append_left _ _
      exact this.nodup nd
    rw [e]
    refine List.mem_flatMap.mpr ⟨d.take k, ih, List.mem_map.mpr ⟨d[k], List.mem_filter.mpr ⟨sub _ (List.getElem_mem hlt), ?_⟩, rfl⟩⟩
    rw [Bool.and_eq_true]
    constructor
    · rw [free_iff]
      intro p hp hq
      rw [pl_snoc] at hnd
      exact (List.nodup_append.mp hnd).2.2 p hq p hp rfl
    · rcases last_cases (d.take k) with z | ⟨l, s, z⟩
      · rw [z]; rfl
      · rw [z, after_last]
        rw [z] at hup
        exact (List.pairwise_append.mp hup).2.2 s (by simp) _ (by simp)
structure IsDay (n : Nat) (d : List T3) : Prop where
  ok : ∀ t ∈ d, okT n t = true
  up : Up d
  nd : (plL d).Nodup
  len : 3 * d.length = n
theorem day_is {n : Nat} {plan d : List T3} (g : ∀ t ∈ plan, okT n t = true) (h : d ∈ dayL n plan) : IsDay n d := by
  obtain ⟨h1, h2⟩ := List.mem_filter.mp h
  have lv := levels_ok g _ d h1
  rw [day_of g lv] at h2
  exact ⟨fun t ht => g t (lv.sub t ht), lv.up, lv.nd, of_decide_eq_true h2⟩
theorem IsDay.dayL {n : Nat} {d : List T3} (D : IsDay n d) : dayL n d = [d] := by
  have hlen : d.length = n / 3 := by have := D.len; omega
  have hm : d ∈ PM.dayL n d := by
    have h1 := take_levels (plan := d) D.up D.nd (fun t ht => ht) d.length (Nat.le_refl _)
    rw [List.take_length, hlen] at h1
    refine List.mem_filter.mpr ⟨h1, ?_⟩
    rw [day_of D.ok (levels_ok D.ok _ d h1)]
    exact decide_eq_true D.len
  have hall : ∀ e ∈ PM.dayL n d, e = d := fun e he => by
    obtain ⟨h1, h2⟩ := List.mem_filter.mp he
    have lv := levels_ok D.ok _ e h1
    have hl := (levels_len _ e h1).1
    have hp : e.Perm d := by
      refine (List.perm_ext_iff_of_nodup lv.up.nodup D.up.nodup).mpr fun x => ⟨lv.sub x, fun hx => Classical.byContradiction fun hn => ?_⟩
      have := nodup_len (List.nodup_cons.mpr ⟨hn, lv.up.nodup⟩) (m := d) fun y hy => by
        rcases List.mem_cons.mp hy with rfl | hy
        · exact hx
        · exact lv.sub y hy
      rw [List.length_cons, hl, hlen] at this
      omega
    exact up_ext lv.up D.up fun t => hp.mem_iff
  have pw := dayL_pw (n := n) D.up
  match hd : PM.dayL n d with
  | [] => rw [hd] at hm; exact nomatch hm
  | [x] => rw [hd] at hall; rw [hall x (by simp)]
  | x :: y :: r =>
    rw [hd] at hall pw
    have e1 := hall x (by simp)
    have e2 := hall y (by simp)
    have := (List.pairwise_cons.mp pw).1 y (by simp)
    rw [e1, e2, ltP_irr] at this
    cases this
theorem IsDay.into {n : Nat} (hn : 3 ≤ n) {d : List T3} (D : IsDay n d) : intoL n d = [[d]] := by
  unfold intoL
  rw [D.dayL]
  match d, D with
  | [], D =>
    have := D.len
    simp at this
    omega
  | t :: r, D =>
    have hf : fitsD (t :: r) (t :: r) = true := by
      unfold fitsD
      rw [Bool.and_eq_true, decide_eq_true_iff, List.all_eq_true]
      exact ⟨List.mem_cons_self, fun s hs => decide_eq_true hs⟩
    have hr : rest (t :: r) (t :: r) = [] := by
      unfold rest
      rw [List.filter_eq_nil_iff]
      intro s hs
      rw [decide_eq_true hs]
      decide
    rw [covA_cons, List.filter_cons_of_pos hf, List.filter_nil, List.flatMap_cons, List.flatMap_nil, hr, covA_nil]
    rfl
/-! ### six players -/
end PM
/-! Full plans for nine players have four days, in one way. -/
namespace PM
open PySem DL PySem.W
/-- the days and the way, found faster -/
def memE (t : T3) (d : List T3) : Bool := d.any fun s => eqT' s t
theorem memE_eq (t : T3) (d : List T3) : memE t d = decide (t ∈ d) := by
  unfold memE
  rw [Bool.eq_iff_iff, decide_eq_true_iff, List.any_eq_true]
  constructor
  · rintro ⟨s, hs, e⟩
    rw [eqT'_eq, decide_eq_true_iff] at e
    rw [← e]; exact hs
  · intro h
    exact ⟨t, h, by rw [eqT'_eq]; exact decide_eq_true rfl⟩
def lv3 (plan : List T3) : List (List T3) := levels plan 3
def dayF (p : List T3) : List (List T3) := (lv3 p).filter fun d => Nat.beq d.length 3
theorem dayF_eq {p : List T3} (g : ∀ t ∈ p, okT 9 t = true) : dayF p = dayL 9 p := by
  unfold dayF lv3 dayL
  refine List.filter_congr fun d hd => ?_
  rw [day_of g (levels_ok g _ d hd), (levels_len _ d hd).1]
  rfl
def fitF (left : List T3) (d : Dy) : Bool := match left with
  | [] => false
  | t :: _ => memE t d && d.all fun s => memE s left
theorem fitF_eq (left : List T3) (d : Dy) : fitF left d = fitsD left d := by
  cases left with
  | nil => rfl
  | cons t r =>
    unfold fitF fitsD
    simp only [memE_eq]
def restF (left : List T3) (d : Dy) : List T3 := left.filter fun s => !memE s d
theorem restF_eq (left : List T3) (d : Dy) : restF left d = rest left d := by
  unfold restF rest
  simp only [memE_eq]
def covF (days : List Dy) : Nat → List T3 → List (List Dy)
  | _, [] => [[]]
  | 0, _ :: _ => []
  | k + 1, t :: r => (days.filter (fitF (t :: r))).flatMap fun d => (covF days k (restF (t :: r) d)).map (d :: ·)
theorem covF_eq (days : List Dy) : ∀ (k : Nat) (left : List T3), covF days k left = cov days k left
  | k, [] => by cases k <;> rfl
  | 0, _ :: _ => rfl
  | k + 1, t :: r => by
    show (days.filter (fitF (t :: r))).flatMap (fun d => (covF days k (restF (t :: r) d)).map (d :: ·)) = (days.filter (fitsD (t :: r))).flatMap fun d => (cov days k (rest (t :: r) d)).map (d :: ·)
    rw [List.filter_congr fun d _ => fitF_eq (t :: r) d]
    refine flat_congr fun d _ => ?_
    rw [restF_eq, covF_eq days k]
def eqL3 : List T3 → List T3 → Bool
  | [], [] => true
  | x :: l, y :: m => eqT' x y && eqL3 l m
  | _, _ => false
def eqLL : List (List T3) → List (List T3) → Bool
  | [], [] => true
  | x :: l, y :: m => eqL3 x y && eqLL l m
  | _, _ => false
theorem eqL3_iff : ∀ {l m : List T3}, eqL3 l m = true → l = m
  | [], [], _ => rfl
  | [], _ :: _, h => nomatch h
  | _ :: _, [], h => nomatch h
  | x :: l, y :: m, h => by
    unfold eqL3 at h
    rw [Bool.and_eq_true, eqT'_eq, decide_eq_true_iff] at h
    rw [h.1, eqL3_iff h.2]
theorem eqLL_iff : ∀ {l m : List (List T3)}, eqLL l m = true → l = m
  | [], [], _ => rfl
  | [], _ :: _, h => nomatch h
  | _ :: _, [], h => nomatch h
  | x :: l, y :: m, h => by
    unfold eqLL at h
    rw [Bool.and_eq_true] at h
    rw [eqL3_iff h.1, eqLL_iff h.2]
/-- four days; the only way is all of them -/
def nineB (p : List T3) : Bool := let d := dayF p; Nat.beq d.length 4 && (match covF d 12 p with
  | [c] => eqLL c d
  | _ => false) && Nat.beq p.length 12
set_option maxHeartbeats 0 in
theorem nine_days {p : List T3} (h : p ∈ fullPlans 9 []) : (dayL 9 p).length = 4 ∧ intoL 9 p = [dayL 9 p] ∧ p.length = 12 := by
  obtain ⟨p1, _, _⟩ := (mem_full (good_nil 9)).mp h
  have g := (stands_iff.mp p1).1
  have key : nineB p = true := by
    refine all_nine (P := nineB) ?_ h
    exact nine_of (Q := fun C => (C.all fun c => nineB (decP 20 c [])) = true) (by decide +kernel) (by decide +kernel) (by decide +kernel) (by decide +kernel) (by decide +kernel) (by decide +kernel) (by decide +kernel) (by decide +kernel) (by decide +kernel) (by decide +kernel) (by decide +kernel) (by decide +kernel) (by decide +kernel) (by decide +kernel) (by decide +kernel) (by decide +kernel) (by decide +kernel) (by decide +kernel) (by decide +kernel) (by decide +kernel) (by decide +kernel) (by decide +kernel) (by decide +kernel) (by decide +kernel) (by decide +kernel) (by decide +kernel) (by decide +kernel) (by decide +kernel)
  unfold nineB at key
  rw [Bool.and_eq_true, Bool.and_eq_true] at key
  obtain ⟨⟨k1, k2⟩, k3⟩ := key
  have hl := Nat.eq_of_beq_eq_true k3
  rw [dayF_eq g.ok] at k1 k2
  refine ⟨Nat.eq_of_beq_eq_true k1, ?_, hl⟩
  unfold intoL covA
  rw [hl]
  rw [covF_eq] at k2
  split at k2
  · rename_i c hc
    rw [hc, eqLL_iff k2]
  · cases k2
end PM
/-! How many days. -/
namespace PM
open PySem DL PySem.W
end PM
/-! The typed layer: the players of threes. -/
namespace PM
open PySem DL PySem.W
def t3L (t : T3) : List Nat := [t.1, t.2.1, t.2.2]
def addN (acc : List Nat) (p : Nat) : List Nat := if acc.contains p = true then acc else acc ++ [p]
def seenL (l : List T3) : List Nat := (l.flatMap t3L).foldl addN []
/-- the players of threes, ascending -/
def playersL (l : List T3) : List Nat := isort leN (seenL l)
def trueD (acc : List Nat) : List (Int × PyData) := acc.map fun (p : Nat) => ((p : Int), PyData.bool true)
theorem addN_len (acc : List Nat) (p : Nat) : (addN acc p).length ≤ acc.length + 1 := by
  unfold addN
  split
  · omega
  · simp
theorem addN_foldl_len : ∀ (ps : List Nat) (acc : List Nat), (ps.foldl addN acc).length ≤ acc.length + ps.length
  | [], acc => by simp
  | p :: r, acc => by
    have h1 := addN_foldl_len r (addN acc p)
    have h2 := addN_len acc p
    rw [List.foldl_cons, List.length_cons]
    omega
theorem put_true (acc : List Nat) (p : Nat) : putM (trueD acc) (p : Int) (.bool true) = trueD (addN acc p) := by
  have ha : ((trueD acc).any fun kv => decide (kv.1 = (p : Int))) = acc.contains p := by
    unfold trueD
    rw [List.any_map, List.contains_eq_any_beq]
    refine List.any_congr rfl fun q => ?_
    show decide ((q : Int) = p) = (p == q)
    by_cases h : q = p
    · simp [h]
    · have h2 : ¬ ((q : Int) = p) := by omega
      simp [h, h2, Ne.symm h]
  unfold putM addN
  rw [ha]
  split
  · unfold trueD
    rw [List.map_map]
    refine List.map_congr_left fun q _ => ?_
    show (if (q : Int) = p then ((q : Int), PyData.bool true) else _) = _
    split <;> rfl
  · unfold trueD
    simp
def plE (l : List T3) (acc : List Nat) (c : Option Cell × Option Cell) : En := [some (.u (.d (eP l))), some (.dic (trueD acc)), c.1, c.2]
theorem pl_put (l : List T3) (acc : List Nat) (c2 : Option Cell) (p : Nat) (h : acc.length < LIM) (S : Sto) : sDPutS 1 (eVar 3) (eC (.bool true)) (plE l acc (c2, some (.u (.d (eI p))))) S = some (.nx, plE l (addN acc p) (c2, some (.u (.d (eI p)))), S) := by
  have h2 : (trueD acc).length < LIM := by unfold trueD; rw [List.length_map]; exact h
  have e := put_true acc p
  simp [sDPutS, plE, eC, eVar, eI, okV, h2, e]
theorem pl_inner (l : List T3) (c2 : Option Cell) (S : Sto) : ∀ (ps : List Nat) (acc : List Nat) (c3 : Option Cell), acc.length + ps.length < LIM → ∃ c3', forGo (.one 3) (sSeq (sDPutS 1 (eVar 3) (eC (.bool true))) sNil) (ps.map eI) (plE l acc (c2, c3)) S = some (.nx, plE l (ps.foldl addN acc) (c2, c3'), S)
  | [], acc, c3, _ => ⟨c3, rfl⟩
  | p :: r, acc, c3, h => by
    rw [List.length_cons] at h
    have h1 := addN_len acc p
    obtain ⟨c3', e⟩ := pl_inner l c2 S r (addN acc p) (some (.u (.d (eI p)))) (by omega)
    refine ⟨c3', ?_⟩
    rw [List.map_cons, List.foldl_cons, ← e]
    rw [forGo]
    have hs : (Tg.one 3).split (eI p) = some [(3, eI p)] := rfl
    have hd : setD (plE l acc (c2, c3)) [(3, eI p)] = plE l acc (c2, some (.u (.d (eI p)))) := rfl
    rw [hs]
    simp only [hd, ap_sSeq, pl_put l acc c2 p (by omega) S]
    rfl
theorem pl_outer (l : List T3) (S : Sto) : ∀ (m : List T3) (acc : List Nat) (c : Option Cell × Option Cell), acc.length + 3 * m.length < LIM → ∃ c', forGo (.one 2) (sSeq (sFor (itSeq (eVar 2)) (.one 3) (sSeq (sDPutS 1 (eVar 3) (eC (.bool true))) sNil)) sNil) (m.map eT) (plE l acc c) S = some (.nx, plE l ((m.flatMap t3L).foldl addN acc) c', S)
  | [], acc, c, _ => ⟨c, rfl⟩
  | t :: r, acc, c, h => by
    rw [List.length_cons] at h
    have h1 := addN_foldl_len (t3L t) acc
    have h3 : (t3L t).length = 3 := rfl
    obtain ⟨c3, e3⟩ := pl_inner l (some (.u (.d (eT t)))) S (t3L t) acc c.2 (by omega)
    obtain ⟨c', e⟩ := pl_outer l S r ((t3L t).foldl addN acc) (some (.u (.d (eT t))), c3) (by omega)
    refine ⟨c', ?_⟩
    rw [List.map_cons, List.flatMap_cons, List.foldl_append, ← e]
    rw [forGo]
    have hs : (Tg.one 2).split (eT t) = some [(2, eT t)] := rfl
    have hd : setD (plE l acc c) [(2, eT t)] = plE l acc (some (.u (.d (eT t))), c.2) := rfl
    have hi : itSeq (eVar 2) (plE l acc (some (.u (.d (eT t))), c.2)) S = some (.ok ((t3L t).map eI), S) := by
      simp [plE, eT, t3L, eI]
    rw [hs]
    simp only [hd, ap_sSeq, ap_sFor, hi, e3]
    rfl
theorem oSortM_true (acc : List Nat) (h : acc.length < 64) : oSortM [.m (trueD acc)] = some (.d (.list ((isort leN acc).map eI))) := by
  have hL : LIM = 1000000 := rfl
  have h2 : (trueD acc).length < 64 := by unfold trueD; rw [List.length_map]; exact h
  have e2 : ((trueD acc).map fun kv => PyData.int kv.1) = acc.map eI := by
    unfold trueD eI
    rw [List.map_map]
    rfl
  show (if (trueD acc).length < 64 then some (U.d (PyData.list (srtD ((trueD acc).map fun kv => PyData.int kv.1)))) else none) = _
  rw [if_pos h2, e2, srtD, isort_map eI leD_I]
theorem ev_players_of (l : List T3) (h : l.length ≤ 20) (S : Sto) : m_players_of [.d (eP l)] S = some (.ok (.d (.list ((playersL l).map eI))), S) := by
  have hL : LIM = 1000000 := rfl
  obtain ⟨c', e⟩ := pl_outer l S l [] (none, none) (by simp only [List.length_nil]; omega)
  have hlen : (seenL l).length < 64 := by
    have := addN_foldl_len (l.flatMap t3L) []
    have h2 : (l.flatMap t3L).length = 3 * l.length := by
      clear h e this
      induction l with
      | nil => rfl
      | cons a r ih => rw [List.flatMap_cons, List.length_append, ih, List.length_cons]; show 3 + _ = _; omega
    unfold seenL
    simp only [List.length_nil] at this
    omega
  have e1 := oSortM_true (seenL l) hlen
  unfold m_players_of
  rw [ap_fnSem, ap_sSeq]
  have e0 : sDNew 1 (startE 4 [.d (eP l)]) S = some (.nx, plE l [] (none, none), S) := rfl
  rw [e0]
  simp only [ap_sSeq, ap_sFor]
  have hi : itSeq (eVar 0) (plE l [] (none, none)) S = some (.ok (l.map eT), S) := by simp [plE, eP]
  rw [hi]
  simp only [e]
  have ef : frzD 1 (plE l ((l.flatMap t3L).foldl addN []) c') = [some (.u (.d (eP l))), some (.u (.m (trueD (seenL l)))), c'.1, c'.2] := rfl
  simp only [sFrzD, ef, ap_sSeq, ap_sRet]
  have er : eBc oSortM (aCons (eVar 1) aNil) (bor [some (.u (.d (eP l))), some (.u (.m (trueD (seenL l)))), c'.1, c'.2]) S = some (.ok (.d (.list ((playersL l).map eI))), S) := by
    simp [e1, playersL]
  rw [er]
end PM
/-! The typed layer: fours. -/
namespace PM
open PySem DL PySem.W
def grow4 (some : List (List T3)) (t : T3) : List (List T3) := some ++ (some.filter fun o => decide (o.length < 4)).map (· ++ [t])
def subs4 (l : List T3) : List (List T3) := l.foldl grow4 [[]]
theorem grow4_len (s : List (List T3)) (t : T3) : (grow4 s t).length ≤ 2 * s.length := by
  unfold grow4
  rw [List.length_append, List.length_map]
  have := List.length_filter_le (fun o : List T3 => decide (o.length < 4)) s
  omega
theorem grow4_few (s : List (List T3)) (t : T3) (h : ∀ o ∈ s, o.length ≤ 4) : ∀ o ∈ grow4 s t, o.length ≤ 4 := by
  intro o ho
  unfold grow4 at ho
  rcases List.mem_append.mp ho with ho | ho
  · exact h o ho
  · obtain ⟨q, hq, rfl⟩ := List.mem_map.mp ho
    have := of_decide_eq_true (List.mem_filter.mp hq).2
    rw [List.length_append]
    simp only [List.length_cons, List.length_nil]
    omega
theorem fold4_len : ∀ (m : List T3) (s : List (List T3)), (m.foldl grow4 s).length ≤ 2 ^ m.length * s.length
  | [], s => by simp
  | t :: r, s => by
    have h1 := fold4_len r (grow4 s t)
    have h2 := grow4_len s t
    rw [List.foldl_cons, List.length_cons, Nat.pow_succ]
    calc _ ≤ 2 ^ r.length * (grow4 s t).length := h1
      _ ≤ 2 ^ r.length * (2 * s.length) := Nat.mul_le_mul_left _ h2
      _ = 2 ^ r.length * 2 * s.length := by rw [Nat.mul_assoc]
theorem fold4_few : ∀ (m : List T3) (s : List (List T3)), (∀ o ∈ s, o.length ≤ 4) → ∀ o ∈ m.foldl grow4 s, o.length ≤ 4
  | [], s, h => h
  | t :: r, s, h => fold4_few r (grow4 s t) (grow4_few s t h)
def f1E (l : List T3) (s : List (List T3)) (c2 : Option Cell) : En := [some (.u (.d (eP l))), some (.u (.d (.list (s.map eP)))), c2, none, none, none]
def f1B : SemS := sSeq (sSet .dat 1 (eOp oAdd (eVar 1) (eLc (itSeq (eVar 1)) [3] (.one 3) (tOf (eOp (cD ltP) (eBc oLen (aCons (eVar 3) aNil)) (eC (.int 4)))) (eOp oAdd (eVar 3) (eTup (aCons (eVar 2) aNil)))))) sNil
theorem ev_f1B (l : List T3) (s : List (List T3)) (t : T3) (hs : s.length ≤ 10000) (hf : ∀ o ∈ s, o.length ≤ 4) (S : Sto) : f1B (f1E l s (some (.u (.d (eT t))))) S = some (.nx, f1E l (grow4 s t) (some (.u (.d (eT t)))), S) := by
  have hL : LIM = 1000000 := rfl
  have e := lc_if (it := itSeq (eVar 1)) (vs := [3]) (tg := .one 3) (test := tOf (eOp (cD ltP) (eBc oLen (aCons (eVar 3) aNil)) (eC (.int 4)))) (fe := eOp oAdd (eVar 3) (eTup (aCons (eVar 2) aNil))) (δ := f1E l s (some (.u (.d (eT t))))) (S := S) eP s (fun o => decide (o.length < 4)) (fun o => eP (o ++ [t])) (by simp [f1E]) (by omega) (fun o ho => ⟨[(3, eP o)], rfl, by
      have : decide (((o.length : Nat) : Int) < 4) = decide (o.length < 4) := decide_eq_decide.mpr (by omega)
      simp [f1E, setD, wipeE, eP, ltP, this], fun _ => by
      have := hf o ho
      have h2 : o.length + 1 ≤ LIM := by omega
      simp [f1E, setD, wipeE, eP, h2]⟩)
  have h3 : (s.map eP).length + (((s.filter fun o => decide (o.length < 4)).map fun o => eP (o ++ [t])).length) ≤ LIM := by
    have := List.length_filter_le (fun o : List T3 => decide (o.length < 4)) s
    rw [List.length_map, List.length_map]
    omega
  have hv : eVar 1 (f1E l s (some (.u (.d (eT t))))) S = some (.ok (.d (.list (s.map eP))), S) := rfl
  unfold f1B
  simp only [ap_sSeq, ap_sSet, ap_eOp, hv, bnd_ok, e, sp_oAdd2, h3, if_true, sp_put1]
  unfold grow4
  simp [f1E]
theorem ev_f1 (l : List T3) (S : Sto) : ∀ (m : List T3) (s : List (List T3)) (c : Option Cell), 2 ^ m.length * s.length ≤ 10000 → (∀ o ∈ s, o.length ≤ 4) → ∃ c', forGo (.one 2) f1B (m.map eT) (f1E l s c) S = some (.nx, f1E l (m.foldl grow4 s) c', S)
  | [], s, c, _, _ => ⟨c, rfl⟩
  | t :: r, s, c, h, hf => by
    rw [List.length_cons, Nat.pow_succ, Nat.mul_assoc] at h
    have hp : 1 ≤ 2 ^ r.length := Nat.one_le_two_pow
    have h1 : 2 * s.length ≤ 2 ^ r.length * (2 * s.length) := Nat.le_mul_of_pos_left _ hp
    have h2 : 2 ^ r.length * (grow4 s t).length ≤ 2 ^ r.length * (2 * s.length) := Nat.mul_le_mul_left _ (grow4_len s t)
    obtain ⟨c', e⟩ := ev_f1 l S r (grow4 s t) (some (.u (.d (eT t)))) (by omega) (grow4_few s t hf)
    refine ⟨c', ?_⟩
    rw [List.map_cons, List.foldl_cons, ← e, forGo]
    have hs : (Tg.one 2).split (eT t) = some [(2, eT t)] := rfl
    have hd : setD (f1E l s c) [(2, eT t)] = f1E l s (some (.u (.d (eT t)))) := rfl
    rw [hs]
    simp only [hd, ev_f1B l s t (by omega) hf S]
end PM
/-! The typed layer: fours, the second loop. -/
namespace PM
open PySem DL PySem.W
def twiceB (o : List T3) : Bool := (playersL o).all fun p => decide ((o.filter (memT p)).length = 2)
def fourB (o : List T3) : Bool := (decide (o.length = 4) && decide ((playersL o).length = 6)) && twiceB o
def fourL (l : List T3) : List (List T3) := sortP ((subs4 l).filter fourB)
def f2E (l : List T3) (s : List (List T3)) (acc : List PyData) (c : Option Cell × Option Cell) : En := [some (.u (.d (eP l))), some (.u (.d (.list (s.map eP)))), c.1, c.2, some (.own acc), none]
def f2T : SemT := tAndS (tOf (eOp (cD eqP) (eBc oLen (aCons (eVar 3) aNil)) (eC (.int 4)))) (tOf (eOp (cD eqP) (eBc oLen (aCons (eCall m_players_of 1 (aCons (eVar 3) aNil)) aNil)) (eC (.int 6))))
def f2U : SemT := tOf (eBc oAll (aCons (eLc (itSeq (eCall m_players_of 1 (aCons (eVar 3) aNil))) [5] (.one 5) tTrue (eOp (cD eqP) (eBc oLen (aCons (eLc (itSeq (eVar 3)) [2] (.one 2) (tOf (eOp (cD inP) (eVar 5) (eVar 2))) (eC (.int 1))) aNil)) (eC (.int 2)))) aNil))
def f2B : SemS := sSeq (sIf f2T (sSeq (sIf f2U (sSeq (sApp 4 (eVar 3)) sNil) sNil) sNil) sNil) sNil
theorem eqI (a b : Nat) : eqP (.int a) (.int b) = some (decide (a = b)) := by
  have : decide ((a : Int) = b) = decide (a = b) := decide_eq_decide.mpr (by omega)
  rw [eqP_int, this]
theorem ev_pl3 (δ : En) (o : List T3) (h : o.length ≤ 20) (hd : δ[3]? = some (some (.u (.d (eP o))))) (S : Sto) : eCall m_players_of 1 (aCons (eVar 3) aNil) δ S = some (.ok (.d (.list ((playersL o).map eI))), S) := by
  simp [hd, ev_players_of o h]
theorem ev_f2T (δ : En) (o : List T3) (h : o.length ≤ 20) (hd : δ[3]? = some (some (.u (.d (eP o))))) (S : Sto) : f2T δ S = some (.ok (decide (o.length = 4) && decide ((playersL o).length = 6)), S) := by
  have e1 := ev_pl3 δ o h hd S
  have e2 := eqI o.length 4
  have e3 := eqI (playersL o).length 6
  have e0 : eBc oLen (aCons (eVar 3) aNil) δ S = some (.ok (.d (.int o.length)), S) := by simp [hd, eP]
  have e4 : eBc oLen (aCons (eCall m_players_of 1 (aCons (eVar 3) aNil)) aNil) δ S = some (.ok (.d (.int (playersL o).length)), S) := by
    rw [ap_eBc, ap_aCons, e1]
    simp
  unfold f2T
  simp only [ap_tAndS, ap_tOf, ap_eOp, e0, e4, bnd_ok, ap_eC, sp_cD]
  have e2 : eqP (.int o.length) (.int 4) = some (decide (o.length = 4)) := e2
  have e3 : eqP (.int (playersL o).length) (.int 6) = some (decide ((playersL o).length = 6)) := e3
  rw [e2]
  cases decide (o.length = 4)
  · rfl
  · simp only [bnd_ok, if_true, e4, sp_cD, e3, Bool.true_and]
theorem ev_f2U (δ : En) (o : List T3) (h : o.length ≤ 20) (hd : δ[3]? = some (some (.u (.d (eP o))))) (hl : δ.length = 6) (S : Sto) : f2U δ S = some (.ok (twiceB o), S) := by
  have hL : LIM = 1000000 := rfl
  have hpl : (playersL o).length ≤ 100 := by
    have h1 := addN_foldl_len (o.flatMap t3L) []
    have h2 : (o.flatMap t3L).length = 3 * o.length := by
      clear h hd h1
      induction o with
      | nil => rfl
      | cons a r ih => rw [List.flatMap_cons, List.length_append, ih, List.length_cons]; show 3 + _ = _; omega
    unfold playersL seenL
    rw [(isort_perm (le := leN) _).length_eq]
    simp only [List.length_nil] at h1
    omega
  have e := lc_map (it := itSeq (eCall m_players_of 1 (aCons (eVar 3) aNil))) (vs := [5]) (tg := .one 5) (fe := eOp (cD eqP) (eBc oLen (aCons (eLc (itSeq (eVar 3)) [2] (.one 2) (tOf (eOp (cD inP) (eVar 5) (eVar 2))) (eC (.int 1))) aNil)) (eC (.int 2))) (δ := δ) (S := S) eI (playersL o) (fun p => .bool (decide ((o.filter (memT p)).length = 2))) (by rw [ap_itSeq, ev_pl3 δ o h hd S]; rfl) (by omega) (fun p hp => ⟨[(5, eI p)], rfl, by
      have d3 : (setD (wipeE δ [5]) [(5, eI p)])[3]? = some (some (.u (.d (eP o)))) := by simp [setD, wipeE, hd]
      have d5 : (setD (wipeE δ [5]) [(5, eI p)])[5]? = some (some (.u (.d (eI p)))) := by simp [setD, wipeE, hl]
      have dl : (setD (wipeE δ [5]) [(5, eI p)]).length = 6 := by simp [setD, wipeE, hl]
      generalize setD (wipeE δ [5]) [(5, eI p)] = ε at d3 d5 dl
      have e1 := lc_if (it := itSeq (eVar 3)) (vs := [2]) (tg := .one 2) (test := tOf (eOp (cD inP) (eVar 5) (eVar 2))) (fe := eC (.int 1)) (δ := ε) (S := S) eT o (memT p) (fun _ => .int 1) (by simp [d3, eP]) (by omega) (fun t ht => ⟨[(2, eT t)], rfl, by
        have ev : (setD (wipeE ε [2]) [(2, eT t)])[2]? = some (some (.u (.d (eT t)))) := by simp [setD, wipeE, dl]
        have ei : (setD (wipeE ε [2]) [(2, eT t)])[5]? = some (some (.u (.d (.int p)))) := by simp [setD, wipeE, d5, eI]
        simp only [ap_tOf, ap_eOp, ap_eVar, ev, ei, bnd_ok, sp_cD, inP_T], fun _ => rfl⟩)
      rw [ap_eOp, ap_eBc, ap_aCons, e1]
      have := eqI (o.filter (memT p)).length 2
      simp at this
      simp [this]⟩)
  unfold f2U
  rw [ap_tOf, ap_eBc, ap_aCons, e]
  simp only [bnd_ok, ap_aNil, oAll_map]
  rfl
end PM
/-! The typed layer: four_list. -/
namespace PM
open PySem DL PySem.W
theorem ev_f2B (l : List T3) (s : List (List T3)) (acc : List PyData) (c2 : Option Cell) (o : List T3) (h : o.length ≤ 20) (ha : acc.length < LIM) (S : Sto) : f2B (f2E l s acc (c2, some (.u (.d (eP o))))) S = some (.nx, f2E l s (acc ++ (if fourB o = true then [eP o] else [])) (c2, some (.u (.d (eP o)))), S) := by
  have hb : (bor (f2E l s acc (c2, some (.u (.d (eP o))))))[3]? = some (some (.u (.d (eP o)))) := rfl
  have hlb : (bor (f2E l s acc (c2, some (.u (.d (eP o)))))).length = 6 := by simp [f2E]
  have e1 := ev_f2T _ o h hb S
  have e2 := ev_f2U _ o h hb hlb S
  have e3 : sApp 4 (eVar 3) (f2E l s acc (c2, some (.u (.d (eP o))))) S = some (.nx, f2E l s (acc ++ [eP o]) (c2, some (.u (.d (eP o)))), S) := by
    simp [f2E, ha]
  have e4 : sSeq (sIf f2U (sSeq (sApp 4 (eVar 3)) sNil) sNil) sNil (f2E l s acc (c2, some (.u (.d (eP o))))) S = some (.nx, f2E l s (acc ++ (if twiceB o = true then [eP o] else [])) (c2, some (.u (.d (eP o)))), S) := by
    rw [ap_sSeq, ap_sIf, e2]
    cases twiceB o with
    | false => simp only [ap_sNil, Bool.false_eq_true, if_false, List.append_nil]
    | true => simp only [ap_sSeq, e3, ap_sNil, if_true]
  unfold f2B
  rw [ap_sSeq, ap_sIf, e1]
  unfold fourB
  cases (decide (o.length = 4) && decide ((playersL o).length = 6)) with
  | false => simp only [ap_sNil, Bool.false_and, Bool.false_eq_true, if_false, List.append_nil]
  | true => simp only [e4, ap_sNil, Bool.true_and]
theorem ev_four_list (l : List T3) (h : l.length ≤ 12) (S : Sto) : m_four_list [.d (eP l)] S = some (.ok (.d (.list ((fourL l).map eP))), S) := by
  have hL : LIM = 1000000 := rfl
  have hp : 2 ^ l.length ≤ 2 ^ 12 := Nat.pow_le_pow_right (by decide) h
  have hp2 : (2 : Nat) ^ 12 = 4096 := by decide
  obtain ⟨c', e⟩ := ev_f1 l S l [[]] none (by simp only [List.length_cons, List.length_nil]; omega) (by simp)
  have hlen : (subs4 l).length ≤ 4096 := by
    have := fold4_len l [[]]
    unfold subs4
    simp only [List.length_cons, List.length_nil] at this
    omega
  have hfew : ∀ o ∈ subs4 l, o.length ≤ 4 := fold4_few l [[]] (by simp)
  obtain ⟨c2, e2⟩ := for_acc (γ := Option Cell × Option Cell) (tg := .one 3) (S := S) (body := f2B) (fun acc c => f2E l (subs4 l) acc c) eP (fun o => if fourB o = true then [eP o] else []) 5000 (subs4 l) [] (c', none) (by
      have := flat_len (fun o => if fourB o = true then [eP o] else []) 1 (subs4 l) (fun x _ => by split <;> simp)
      simp only [List.length_nil]
      omega) (fun acc c o ho hB => by
      refine ⟨[(3, eP o)], (c.1, some (.u (.d (eP o)))), rfl, ?_⟩
      have hs : setD (f2E l (subs4 l) acc c) [(3, eP o)] = f2E l (subs4 l) acc (c.1, some (.u (.d (eP o)))) := rfl
      rw [hs]
      have := hfew o ho
      exact ev_f2B l (subs4 l) acc c.1 o (by omega) (by omega) S)
  have hfl : (subs4 l).flatMap (fun o => if fourB o = true then [eP o] else []) = ((subs4 l).filter fourB).map eP := by
    generalize subs4 l = s
    induction s with
    | nil => rfl
    | cons a r ih =>
      rw [List.flatMap_cons, ih, List.filter_cons]
      cases fourB a <;> simp
  rw [hfl, List.nil_append] at e2
  have hne : ∀ p ∈ (subs4 l).filter fourB, p ≠ [] := fun p hp z => by
    have h4 := (List.mem_filter.mp hp).2
    rw [z] at h4
    simp [fourB] at h4
  have es := oSort_P ((subs4 l).filter fourB) (Nat.le_trans (List.length_filter_le _ _) (by omega)) hne
  have e0 : sSet .dat 1 (eLst (aCons (eTup aNil) aNil)) (startE 6 [.d (eP l)]) S = some (.nx, f1E l [[]] none, S) := by
    simp [f1E, eP]
  have hi : itSeq (eVar 0) (f1E l [[]] none) S = some (.ok (l.map eT), S) := by simp [f1E, eP]
  have e3 : sSet .own 4 (eLst aNil) (f1E l (subs4 l) c') S = some (.nx, f2E l (subs4 l) [] (c', none), S) := by
    simp [f1E, f2E]
  have hi2 : itSeq (eVar 1) (f2E l (subs4 l) [] (c', none)) S = some (.ok ((subs4 l).map eP), S) := by simp [f2E]
  have er : eBc oSort (aCons (eVar 4) aNil) (bor (f2E l (subs4 l) (((subs4 l).filter fourB).map eP) c2)) S = some (.ok (.d (.list ((fourL l).map eP))), S) := by
    have hv : eVar 4 (bor (f2E l (subs4 l) (((subs4 l).filter fourB).map eP) c2)) S = some (.ok (.d (.list (((subs4 l).filter fourB).map eP))), S) := rfl
    rw [ap_eBc, ap_aCons, hv]
    simp only [bnd_ok, ap_aNil, es]
    rfl
  unfold m_four_list
  rw [ap_fnSem, ap_sSeq, e0]
  simp only [ap_sSeq, ap_sFor, hi]
  have e' : forGo (.one 2) f1B (l.map eT) (f1E l [[]] none) S = some (.nx, f1E l (subs4 l) c', S) := e
  unfold f1B at e'
  simp only [e', e3, hi2]
  unfold f2B f2T f2U at e2
  simp only [e2, ap_sRet, er]
end PM
/-! The typed layer: fours of a plan. -/
namespace PM
open PySem DL PySem.W
theorem ev_fours (n : Nat) (hn : 3 ≤ n ∧ n ≤ 9) (l : List T3) (hl : l.length ≤ 12) (hs : standsB n l = true) (S : Sto) : m_fours [.d (.int n), .d (eP l)] S = some (.ok (.d (.list ((fourL l).map eP))), S) := by
  unfold m_fours
  simp [ev_check_plan n hn l (by omega), hs, ev_four_list l hl]
end PM
set_option maxHeartbeats 8000000
/-! The typed layer: no fours in a full plan for nine players. -/
namespace PM
open PySem DL PySem.W
/-- a three as a number with a digit (base 8) for each player -/
def code8 (t : T3) : Nat := 8 ^ t.1 + 8 ^ t.2.1 + 8 ^ t.2.2
def odd8 (s : Nat) : Bool := !Nat.beq (Nat.land s 95869805) 0
def no4d (s : Nat) : List Nat → Bool
  | [] => true
  | d :: r => odd8 (s + d) && no4d s r
def no4c (s : Nat) : List Nat → Bool
  | [] => true
  | c :: r => no4d (s + c) r && no4c s r
def no4b (s : Nat) : List Nat → Bool
  | [] => true
  | b :: r => no4c (s + b) r && no4b s r
def no4 : List Nat → Bool
  | [] => true
  | a :: r => no4b a r && no4 r
theorem no4_nine {p : List T3} (hp : p ∈ fullPlans 9 []) : no4 (p.map code8) = true := by
  refine all_nine (P := fun p => no4 (p.map code8)) ?_ hp
  exact nine_of (Q := fun C => (C.all fun c => no4 ((decP 20 c []).map code8)) = true) (by decide +kernel) (by decide +kernel) (by decide +kernel) (by decide +kernel) (by decide +kernel) (by decide +kernel) (by decide +kernel) (by decide +kernel) (by decide +kernel) (by decide +kernel) (by decide +kernel) (by decide +kernel) (by decide +kernel) (by decide +kernel) (by decide +kernel) (by decide +kernel) (by decide +kernel) (by decide +kernel) (by decide +kernel) (by decide +kernel) (by decide +kernel) (by decide +kernel) (by decide +kernel) (by decide +kernel) (by decide +kernel) (by decide +kernel) (by decide +kernel) (by decide +kernel)
end PM
set_option maxHeartbeats 2000000
/-! The typed layer: fours are parts of the plan; none for nine. -/
namespace PM
open PySem DL PySem.W
theorem fold4_sub : ∀ (m : List T3) (s : List (List T3)) (o : List T3), o ∈ m.foldl grow4 s → ∃ q ∈ s, ∃ r, List.Sublist r m ∧ o = q ++ r
  | [], s, o, h => ⟨o, h, [], List.Sublist.refl _, by simp⟩
  | t :: m, s, o, h => by
    obtain ⟨q, hq, r, hr, e⟩ := fold4_sub m (grow4 s t) o h
    unfold grow4 at hq
    rcases List.mem_append.mp hq with hq | hq
    · exact ⟨q, hq, r, hr.cons t, e⟩
    · obtain ⟨q', hq', rfl⟩ := List.mem_map.mp hq
      exact ⟨q', (List.mem_filter.mp hq').1, t :: r, hr.cons_cons t, by rw [e, List.append_assoc]; rfl⟩
theorem subs4_sub {l o : List T3} (h : o ∈ subs4 l) : List.Sublist o l := by
  obtain ⟨q, hq, r, hr, e⟩ := fold4_sub l [[]] o h
  rw [List.mem_singleton.mp hq, List.nil_append] at e
  rw [e]
  exact hr
theorem no4d_at {s d : Nat} : ∀ {l : List Nat}, no4d s l = true → d ∈ l → odd8 (s + d) = true
  | x :: l, h, hd => by
    rw [no4d, Bool.and_eq_true] at h
    rcases List.mem_cons.mp hd with rfl | hd
    · exact h.1
    · exact no4d_at h.2 hd
theorem no4c_at {s c d : Nat} : ∀ {l : List Nat}, no4c s l = true → List.Sublist [c, d] l → odd8 (s + c + d) = true
  | x :: l, h, hd => by
    rw [no4c, Bool.and_eq_true] at h
    cases hd with
    | cons _ hd => exact no4c_at h.2 hd
    | cons_cons _ hd => exact no4d_at h.1 (hd.subset (by simp))
theorem no4b_at {s b c d : Nat} : ∀ {l : List Nat}, no4b s l = true → List.Sublist [b, c, d] l → odd8 (s + b + c + d) = true
  | x :: l, h, hd => by
    rw [no4b, Bool.and_eq_true] at h
    cases hd with
    | cons _ hd => exact no4b_at h.2 hd
    | cons_cons _ hd => exact no4c_at h.1 hd
theorem no4_at {a b c d : Nat} : ∀ {l : List Nat}, no4 l = true → List.Sublist [a, b, c, d] l → odd8 (a + b + c + d) = true
  | x :: l, h, hd => by
    rw [no4, Bool.and_eq_true] at h
    cases hd with
    | cons _ hd => exact no4_at h.2 hd
    | cons_cons _ hd => exact no4b_at h.1 hd
end PM
set_option maxHeartbeats 2000000
/-! The typed layer: none for nine. -/
namespace PM
open PySem DL PySem.W
theorem mem_addN {acc : List Nat} {p q : Nat} : q ∈ addN acc p ↔ q ∈ acc ∨ q = p := by
  unfold addN
  split
  · rename_i h
    have h : p ∈ acc := by simpa using h
    exact ⟨fun m => .inl m, fun m => m.elim id (fun e => e ▸ h)⟩
  · simp
theorem mem_addN_fold {q : Nat} : ∀ {ps acc : List Nat}, q ∈ ps.foldl addN acc ↔ q ∈ acc ∨ q ∈ ps
  | [], acc => by simp
  | p :: r, acc => by
    rw [List.foldl_cons, mem_addN_fold, mem_addN, List.mem_cons, or_assoc]
theorem memT_t3 {p : Nat} {t : T3} : memT p t = true ↔ p ∈ t3L t := by
  obtain ⟨a, b, c⟩ := t
  rw [memT_iff]
  simp [t3L]
theorem mem_players {o : List T3} {p : Nat} : p ∈ playersL o ↔ ∃ t ∈ o, memT p t = true := by
  unfold playersL seenL
  rw [(isort_perm (le := leN) _).mem_iff, mem_addN_fold]
  refine ⟨fun h => ?_, fun ⟨t, ht, m⟩ => .inr (List.mem_flatMap.mpr ⟨t, ht, memT_t3.mp m⟩)⟩
  rcases h with h | h
  · cases h
  · obtain ⟨t, ht, m⟩ := List.mem_flatMap.mp h
    exact ⟨t, ht, memT_t3.mpr m⟩
def cnt (o : List T3) (p : Nat) : Nat := (o.filter (memT p)).length
theorem twice_cnt {o : List T3} (h : twiceB o = true) (p : Nat) : cnt o p = 0 ∨ cnt o p = 2 := by
  by_cases hp : p ∈ playersL o
  · exact .inr (of_decide_eq_true (List.all_eq_true.mp h p hp))
  · refine .inl ?_
    unfold cnt
    rw [List.length_eq_zero_iff, List.filter_eq_nil_iff]
    intro t ht m
    exact hp (mem_players.mpr ⟨t, ht, m⟩)
def b1 (p : Nat) (t : T3) : Nat := cond (memT p t) 1 0
theorem cnt4 (a b c d : T3) (p : Nat) : cnt [a, b, c, d] p = b1 p a + b1 p b + b1 p c + b1 p d := by
  unfold cnt b1
  cases ha : memT p a <;> cases hb : memT p b <;> cases hc : memT p c <;> cases hd : memT p d <;> simp [List.filter, ha, hb, hc, hd]
def sum9 (f : Nat → Nat) : Nat := f 0 + 8 * f 1 + 64 * f 2 + 512 * f 3 + 4096 * f 4 + 32768 * f 5 + 262144 * f 6 + 2097152 * f 7 + 16777216 * f 8
theorem code8_all : ((List.range 9).all fun a => (List.range 9).all fun b => (List.range 9).all fun c => Nat.ble b a || (Nat.ble c b || Nat.beq (code8 (a, b, c)) (sum9 fun p => b1 p (a, b, c)))) = true := by decide +kernel
theorem sum_all : ([0, 2].all fun a => [0, 2].all fun b => [0, 2].all fun c => [0, 2].all fun d => [0, 2].all fun e => [0, 2].all fun f => [0, 2].all fun g => [0, 2].all fun h => [0, 2].all fun i =>
    Nat.beq (Nat.land (a + 8 * b + 64 * c + 512 * d + 4096 * e + 32768 * f + 262144 * g + 2097152 * h + 16777216 * i) 95869805) 0) = true := by decide +kernel
end PM
set_option maxHeartbeats 2000000
/-! The typed layer: a full plan for nine has no fours. -/
namespace PM
open PySem DL PySem.W
theorem code8_sum {t : T3} (h : okT 9 t = true) : code8 t = sum9 fun p => b1 p t := by
  obtain ⟨a, b, c⟩ := t
  have h := of_decide_eq_true h
  simp only at h
  have e := List.all_eq_true.mp (List.all_eq_true.mp (List.all_eq_true.mp code8_all a (List.mem_range.mpr (by omega))) b (List.mem_range.mpr (by omega))) c (List.mem_range.mpr (by omega))
  have h1 : Nat.ble b a = false := by
    cases z : Nat.ble b a with
    | false => rfl
    | true => have := Nat.le_of_ble_eq_true z; omega
  have h2 : Nat.ble c b = false := by
    cases z : Nat.ble c b with
    | false => rfl
    | true => have := Nat.le_of_ble_eq_true z; omega
  rw [h1, h2, Bool.false_or, Bool.false_or] at e
  exact Nat.eq_of_beq_eq_true e
theorem mem02 {x : Nat} (h : x = 0 ∨ x = 2) : x ∈ [0, 2] := by simpa using h
theorem not_odd (f : Nat → Nat) (h : ∀ p, f p = 0 ∨ f p = 2) : odd8 (sum9 f) = false := by
  have e := sum_all
  rw [List.all_eq_true] at e
  have e := e _ (mem02 (h 0))
  rw [List.all_eq_true] at e
  have e := e _ (mem02 (h 1))
  rw [List.all_eq_true] at e
  have e := e _ (mem02 (h 2))
  rw [List.all_eq_true] at e
  have e := e _ (mem02 (h 3))
  rw [List.all_eq_true] at e
  have e := e _ (mem02 (h 4))
  rw [List.all_eq_true] at e
  have e := e _ (mem02 (h 5))
  rw [List.all_eq_true] at e
  have e := e _ (mem02 (h 6))
  rw [List.all_eq_true] at e
  have e := e _ (mem02 (h 7))
  rw [List.all_eq_true] at e
  have e := e _ (mem02 (h 8))
  unfold odd8 sum9
  rw [e]
  rfl
theorem fourL_nine {p : List T3} (hp : p ∈ fullPlans 9 []) : fourL p = [] := by
  have hs := ((mem_full (n := 9) (l := []) ⟨by simp, by simp [met]⟩).mp hp).1
  have hok : ∀ t ∈ p, okT 9 t = true := by
    unfold standsB at hs
    rw [Bool.and_eq_true] at hs
    exact List.all_eq_true.mp hs.1
  have hn := no4_nine hp
  have hf : (subs4 p).filter fourB = [] := by
    rw [List.filter_eq_nil_iff]
    intro o ho h4
    have hsub := subs4_sub ho
    unfold fourB at h4
    rw [Bool.and_eq_true, Bool.and_eq_true] at h4
    have hl := of_decide_eq_true h4.1.1
    have ht := twice_cnt h4.2
    match o, hl, hsub, ht with
    | [a, b, c, d], _, hsub, ht =>
      have h1 := no4_at hn (hsub.map code8)
      have e : code8 a + code8 b + code8 c + code8 d = sum9 (cnt [a, b, c, d]) := by
        rw [code8_sum (hok a (hsub.subset (by simp))), code8_sum (hok b (hsub.subset (by simp))), code8_sum (hok c (hsub.subset (by simp))), code8_sum (hok d (hsub.subset (by simp)))]
        unfold sum9
        simp only [cnt4]
        omega
      rw [e, not_odd _ ht] at h1
      cases h1
  unfold fourL
  rw [hf]
  rfl
end PM
set_option maxHeartbeats 400000
/-! Days: by their members; a plan that its days part; full plans for nine without a day or a three. -/
namespace PM
open PySem DL PySem.W
theorem mem_dayL {n : Nat} {plan d : List T3} (g : ∀ t ∈ plan, okT n t = true) : d ∈ dayL n plan ↔ IsDay n d ∧ ∀ t ∈ d, t ∈ plan := by
  constructor
  · intro h
    exact ⟨day_is g h, (levels_len _ d (List.mem_filter.mp h).1).2⟩
  · rintro ⟨D, hs⟩
    have hlen : d.length = n / 3 := by have := D.len; omega
    have h1 := take_levels (plan := plan) D.up D.nd hs d.length (Nat.le_refl _)
    rw [List.take_length, hlen] at h1
    refine List.mem_filter.mpr ⟨h1, ?_⟩
    rw [day_of g (levels_ok g _ d h1)]
    exact decide_eq_true D.len
theorem cov_flat {days : List Dy} (ok : ∀ d ∈ days, Up d) : ∀ (k : Nat) (left : List T3), Up left → ∀ c ∈ cov days k left, c.flatten.Perm left
  | k, [], _, c, h => by
    have : c = [] := by cases k <;> exact List.mem_singleton.mp h
    subst this
    exact List.Perm.refl _
  | 0, _ :: _, _, _, h => nomatch h
  | k + 1, t :: r, ul, c, h => by
    obtain ⟨d, hd, h2⟩ := List.mem_flatMap.mp h
    obtain ⟨u, hu, rfl⟩ := List.mem_map.mp h2
    obtain ⟨hd1, hd2⟩ := List.mem_filter.mp hd
    have i := cov_flat ok k (rest (t :: r) d) (ul.filter _) u hu
    have hsub : ∀ s ∈ d, s ∈ t :: r := fun s hs => by
      unfold fitsD at hd2
      rw [Bool.and_eq_true, List.all_eq_true] at hd2
      exact of_decide_eq_true (hd2.2 s hs)
    rw [List.flatten_cons]
    refine (List.Perm.append_left d i).trans ?_
    refine (List.perm_ext_iff_of_nodup ?_ ul.nodup).mpr fun x => ?_
    · refine List.nodup_append.mpr ⟨(ok d hd1).nodup, ul.nodup.filter _, fun a ha b hb e => ?_⟩
      subst e
      have := (List.mem_filter.mp hb).2
      rw [decide_eq_true ha] at this
      cases this
    · rw [List.mem_append]
      constructor
      · rintro (h | h)
        · exact hsub x h
        · exact (List.mem_filter.mp h).1
      · intro h
        by_cases hx : x ∈ d
        · exact .inl hx
        · exact .inr (List.mem_filter.mpr ⟨h, by rw [decide_eq_false hx]; rfl⟩)
/-- a full plan for nine and its days -/
structure Nine (p : List T3) (D : List Dy) : Prop where
  full : p ∈ fullPlans 9 []
  g : Good 9 p
  up : Up p
  left : leftOf 9 p = []
  len : p.length = 12
  days : dayL 9 p = D
  dlen : D.length = 4
  into : intoL 9 p = [D]
  pw : D.Pairwise fun a b => ltP' a b = true
  flat : D.flatten.Perm p
  day : ∀ d ∈ D, IsDay 9 d ∧ ∀ t ∈ d, t ∈ p
theorem nine_of_full {p : List T3} (h : p ∈ fullPlans 9 []) : Nine p (dayL 9 p) := by
  obtain ⟨p1, p2, _⟩ := (mem_full (good_nil 9)).mp h
  obtain ⟨g, up⟩ := stands_iff.mp p1
  obtain ⟨a1, a2, a3⟩ := nine_days h
  have hd : ∀ d ∈ dayL 9 p, IsDay 9 d ∧ ∀ t ∈ d, t ∈ p := fun d hd => (mem_dayL g.ok).mp hd
  refine ⟨h, g, up, p2, a3, rfl, a1, a2, dayL_pw up, ?_, hd⟩
  refine cov_flat (days := dayL 9 p) (fun d hd' => (hd d hd').1.up) p.length p up (dayL 9 p) ?_
  have : dayL 9 p ∈ intoL 9 p := by rw [a2]; exact List.mem_singleton.mpr rfl
  exact this
section
variable {p : List T3} {D : List Dy} (N : Nine p D)
include N
theorem Nine.fn : D.flatten.Nodup := N.flat.symm.nodup N.up.nodup
theorem Nine.ne {d : Dy} (hd : d ∈ D) : d ≠ [] := fun e => by
  have := (N.day d hd).1.len
  rw [e] at this
  simp at this
theorem Nine.ok : DysOk D := ⟨fun d hd => (N.day d hd).1.up, fun d hd => N.ne hd⟩
theorem Nine.nd : D.Nodup := N.pw.imp fun h => ltP_ne h
theorem Nine.sorted : sortT D.flatten = p := sortT_eq N.flat N.up
/-! .. without a day -/
end
end PM
set_option maxHeartbeats 400000
/-! Full plans for nine: without a day, without a three; each three's day. -/
namespace PM
open PySem DL PySem.W
end PM
set_option maxHeartbeats 400000
/-! A draw of a tuple; comparisons of threes and of lists of plans. -/
namespace PM
open PySem DL PySem.W
end PM
set_option maxHeartbeats 400000
/-! The typed layer: opposite, exchanged. -/
namespace PM
open PySem DL PySem.W
/-! ### exchanged -/
end PM
set_option maxHeartbeats 400000
/-! Fours: who is opposite to whom, what a four is exchanged for. -/
namespace PM
open PySem DL PySem.W
structure Four (n : Nat) (f : List T3) : Prop where
  g : Good n f
  len : f.length = 4
  six : (playersL f).length = 6
  two : ∀ p ∈ playersL f, cnt f p = 2
section
variable {n : Nat} {f : List T3} (F : Four n f)
include F
theorem Four.nodup : f.Nodup := good_nodup F.g
end
end PM
set_option maxHeartbeats 400000
/-! The exchange of a four in a plan. -/
namespace PM
open PySem DL PySem.W
end PM
set_option maxHeartbeats 400000
/-! The greatest plan for six, renamed: a four; what it is exchanged for. -/
namespace PM
open PySem DL PySem.W
end PM
set_option maxHeartbeats 400000
/-! The typed layer: names between plans. -/
namespace PM
open PySem DL PySem.W
theorem b_range (n : Nat) (hn : n ≤ 9) {δ : En} {S : Sto} (h : δ[0]? = some (uI n)) : itR1 (aCons (eVar 0) aNil) δ S = some (.ok ((List.range n).map eI), S) := by
  have h0 : eVar 0 δ S = some (.ok (.d (.int n)), S) := by rw [ap_eVar, h]
  have hb : (n : Int).natAbs < 2 ^ 40 := by omega
  simp only [ap_itR1, ap_aCons, ap_aNil, h0, bnd_ok, hb, if_true, ints_range]
end PM
set_option maxHeartbeats 400000
/-! Names between plans: all names that lead one to the other, in their order. -/
namespace PM
open PySem DL PySem.W
/-! ### names put together -/
end PM
set_option maxHeartbeats 0
/-! Full plans for seven: led to each other, threes in common, fours, what contains their parts. -/
namespace PM
open PySem DL PySem.W
def missL (fs : List (List T3)) : List Nat := fs.flatMap fun f => (List.range 7).filter fun x => !(plL f).any fun y => Nat.beq y x
def seven2 (p : List T3) : Bool := let fs := (subs4 p).filter fourB; Nat.beq fs.length 7 && beqL (isort leN (missL fs)) [0, 1, 2, 3, 4, 5, 6]
theorem seven2_all : ((fullPlans 7 []).all seven2) = true := by decide +kernel
end PM
set_option maxHeartbeats 400000
/-! Slices; ranges of items. -/
namespace PM
open PySem DL PySem.W
end PM
set_option maxHeartbeats 1000000
namespace K10
open PySem DL PM PySem.W
abbrev C := Option Cell
def seven : List T3 := [(0, 1, 2), (0, 3, 4), (0, 5, 6), (1, 3, 5), (1, 4, 6), (2, 3, 6), (2, 4, 5)]
def nine : List T3 := [(0, 1, 2), (0, 3, 6), (0, 4, 7), (0, 5, 8), (1, 3, 7), (1, 4, 8), (1, 5, 6), (2, 3, 8), (2, 4, 6), (2, 5, 7), (3, 4, 5), (6, 7, 8)]
def l4' : List T3 := [(0, 1, 2), (0, 3, 6), (3, 4, 5), (6, 7, 8)]
def l3' : List T3 := [(0, 1, 2), (3, 4, 5), (6, 7, 8)]
def fst : Nat → List T3
  | 3 => [(0, 1, 2)]
  | 4 => [(0, 1, 2)]
  | 5 => [(0, 1, 2), (0, 3, 4)]
  | 6 => [(0, 1, 2), (0, 3, 4), (1, 3, 5), (2, 4, 5)]
  | 7 => seven
  | 8 => seven
  | _ => [(0, 1, 2), (0, 3, 4), (0, 5, 6), (0, 7, 8), (1, 3, 5), (1, 4, 6), (2, 3, 6), (2, 4, 5)]
def due : Nat → Nat
  | 3 => 1
  | 4 => 1
  | 5 => 2
  | 6 => 4
  | _ => 7
theorem fst_eq {n : Nat} (hn : 3 ≤ n ∧ n ≤ 9) : complT n [] = fst n := by
  have : n = 3 ∨ n = 4 ∨ n = 5 ∨ n = 6 ∨ n = 7 ∨ n = 8 ∨ n = 9 := by omega
  rcases this with rfl | rfl | rfl | rfl | rfl | rfl | rfl <;> decide +kernel
def E (n : Nat) (c3 c4 c6 c7 : C) : En := [some (.u .sc), some (.u .tw), uI n, c3, c4, none, c6, c7]
variable {n : Nat} {S : Sto}
theorem st0 (n : Nat) : standsB n [] = true := rfl
theorem l2 (hn : 3 ≤ n ∧ n ≤ 9) : s2_law (E n none none none none) S = some (.nx, E n (uP (fst n)) none none none, S) := by
  have e := ev_completion n hn [] (st0 n) S
  rw [fst_eq hn] at e
  have e : m_completion [.d (.int n), .d (.tuple [])] S = some (.ok (.d (eP (fst n))), S) := e
  unfold s2_law
  simp [E, e]
theorem l35 (hn : 3 ≤ n ∧ n ≤ 9) : sSeq s3_law (sSeq s4_law (sSeq s5_law sNil)) (E n (uP (fst n)) none none none) S = some (.nx, E n (uP (fst n)) (uI (due n)) none none, S) := by
  have : n = 3 ∨ n = 4 ∨ n = 5 ∨ n = 6 ∨ n = 7 ∨ n = 8 ∨ n = 9 := by omega
  rcases this with rfl | rfl | rfl | rfl | rfl | rfl | rfl <;> kernel_rfl
theorem cf0 (k : Nat) (hk : k = 4 ∨ k = 5 ∨ k = 6 ∨ k = 8) : m_count_full [.d (.int k), .d (.tuple [])] S = some (.ok (.d (.int 0)), S) := by
  have e := ev_count_full k (by omega) [] (st0 k) S
  rw [no_full hk (good_nil k)] at e
  exact e
theorem l6 (c3 c4 : C) : s6_law (E n c3 c4 none none) S = some (.nx, E n c3 c4 none none, S) := by
  have el : eLc (itSeq (eTup (aCons (eC (.int 4)) (aCons (eC (.int 5)) (aCons (eC (.int 6)) (aCons (eC (.int 8)) aNil)))))) [5] (.one 5) tTrue (eCall m_count_full 2 (aCons (eVar 5) (aCons (eTup aNil) aNil))) (bor (E n c3 c4 none none)) S = some (.ok (.d (.list ([4, 5, 6, 8].map fun _ => .int 0))), S) := by
    refine lc_map eI [4, 5, 6, 8] (fun _ => .int 0) rfl (by simp [LIM]) (fun r hr => ⟨[(5, eI r)], rfl, ?_⟩)
    have e := cf0 (S := S) r (by simpa using hr)
    have h5 : eVar 5 (setD (wipeE (bor (E n c3 c4 none none)) [5]) [(5, eI r)]) S = some (.ok (.d (.int r)), S) := rfl
    simp only [ap_eCall, ap_aCons, ap_aNil, ap_eTup, h5, bnd_ok, sp_allD0, List.length_nil, List.length_cons, Nat.zero_le, if_true, Nat.zero_add, Nat.reduceAdd, e]
  have q : neP (.list ([4, 5, 6, 8].map fun (_ : Nat) => .int 0)) (.list [.int 0, .int 0, .int 0, .int 0]) = some false := rfl
  have q2 : eOp oMul (eLst (aCons (eC (.int 0)) aNil)) (eC (.int 4)) (bor (E n c3 c4 none none)) S = some (.ok (.d (.list [.int 0, .int 0, .int 0, .int 0])), S) := rfl
  unfold s6_law
  rw [ap_sIf, ap_tOf, ap_eOp, el]
  simp only [bnd_ok]
  rw [q2]
  simp only [bnd_ok, sp_cD, q]
  rfl
theorem c12 : (fullPlans 9 l3').length = 12 := by decide +kernel
theorem l7 (c3 c4 : C) : s7_law (E n c3 c4 none none) S = some (.nx, E n c3 c4 none none, S) := by
  have e := ev_count_full 9 (by decide) l3' (by decide +kernel) S
  rw [c12] at e
  have e : m_count_full [.d (.int 9), .d (.tuple [.tuple [.int 0, .int 1, .int 2], .tuple [.int 3, .int 4, .int 5], .tuple [.int 6, .int 7, .int 8]])] S = some (.ok (.d (.int 12)), S) := e
  have q : neP (.int 12) (.int 12) = some false := rfl
  unfold s7_law
  rw [ap_sIf]
  simp [e, q]
theorem min7 : (match fullPlans 7 [] with | [] => [] | x :: xs => minP x xs) = seven := by decide +kernel
theorem seven_full : seven ∈ fullPlans 7 [] := (mem_full (good_nil 7)).mpr ⟨by decide +kernel, by decide +kernel, fun _ h => nomatch h⟩
theorem l9 (c3 c4 : C) : s9_law (E n c3 c4 (uP seven) none) S = some (.nx, E n c3 c4 (uP seven) none, S) := by
  have e1 := ev_full_plan 7 (by decide) [] (st0 7) S
  have h7 := min7
  have hm := seven_full
  obtain ⟨p1, p2, _⟩ := (mem_full (good_nil 7)).mp hm
  have e2 := ev_is_full 7 (by decide) seven (by decide) p1 S
  rw [decide_eq_true p2] at e2
  have e2 : m_is_full [.d (.int 7), .d (eP seven)] S = some (.ok (.d (.bool true)), S) := e2
  have e3 := ev_fours 7 (by decide) seven (by decide) p1 S
  have e3 : m_fours [.d (.int 7), .d (eP seven)] S = some (.ok (.d (.list ((fourL seven).map eP))), S) := e3
  have hl : (fourL seven).length = 7 := by
    have h0 := List.all_eq_true.mp seven2_all seven hm
    unfold seven2 at h0
    rw [Bool.and_eq_true] at h0
    have hp : (fourL seven).Perm ((subs4 seven).filter fourB) := isort_perm _
    rw [hp.length_eq]
    exact Nat.eq_of_beq_eq_true h0.1
  match hf : fullPlans 7 [] with
  | [] => rw [hf] at hm; exact nomatch hm
  | x :: xs =>
    rw [hf] at e1 h7
    have h7 : minP x xs = seven := h7
    have e1 : m_full_plan [.d (.int 7), .d (.tuple [])] S = some (.ok (.d (eP (minP x xs))), S) := e1
    rw [h7] at e1
    have q1 : neP (eP seven) (eP seven) = some false := by rw [neP_P]; simp
    have q2 : isNotP (.bool true) (.bool true) = some false := rfl
    have q3 : neP (.int (((fourL seven).length : Nat) : Int)) (.int 7) = some false := by rw [hl]; rfl
    have h6 : eVar 6 (bor (E n c3 c4 (uP seven) none)) S = some (.ok (.d (eP seven)), S) := rfl
    unfold s9_law
    rw [ap_sIf]
    simp only [ap_tOrS, ap_tOf, ap_eOp, ap_eTup, ap_eBc, ap_eCall, ap_aCons, ap_aNil, ap_eC, h6, bnd_ok, sp_allD0, List.length_cons, List.length_nil, Nat.zero_add, Nat.zero_le, Nat.reduceAdd, if_true, e1, e2, e3, sp_oLen1, List.length_map, sp_cD, q1, q2, q3, Bool.false_eq_true, if_false]
    rfl
theorem min9 : (match fullPlans 9 l4' with | [] => [] | x :: xs => minP x xs) = nine := by decide +kernel
theorem l10 (c3 c4 : C) : s10_law (E n c3 c4 (uP seven) none) S = some (.nx, E n c3 c4 (uP seven) (uP nine), S) := by
  have st : standsB 9 l4' = true := by decide +kernel
  have e1 := ev_full_plan 9 (by decide) l4' st S
  have h9 := min9
  match hf : fullPlans 9 l4' with
  | [] => rw [hf] at h9; exact absurd h9 (by decide)
  | x :: xs =>
    rw [hf] at e1 h9
    have h9 : minP x xs = nine := h9
    have e1 : m_full_plan [.d (.int 9), .d (.tuple [.tuple [.int 0, .int 1, .int 2], .tuple [.int 0, .int 3, .int 6], .tuple [.int 3, .int 4, .int 5], .tuple [.int 6, .int 7, .int 8]])] S = some (.ok (.d (eP (minP x xs))), S) := e1
    rw [h9] at e1
    unfold s10_law
    simp [E, e1]
theorem nine_full : nine ∈ fullPlans 9 [] := (mem_full (good_nil 9)).mpr ⟨by decide +kernel, by decide +kernel, fun _ h => nomatch h⟩
theorem day9 : (dayL 9 nine).head? = some l3' := by decide +kernel
theorem l11 (c3 c4 : C) : s11_law (E n c3 c4 (uP seven) (uP nine)) S = some (.nx, E n c3 c4 (uP seven) (uP nine), S) := by
  have N := nine_of_full nine_full
  have st : standsB 9 nine = true := stands_iff.mpr ⟨N.g, N.up⟩
  have e1 := ev_is_full 9 (by decide) nine (by decide) st S
  rw [decide_eq_true N.left] at e1
  have e1 : m_is_full [.d (.int 9), .d (eP nine)] S = some (.ok (.d (.bool true)), S) := e1
  have e2 := ev_fours 9 (by decide) nine (by decide) st S
  rw [fourL_nine nine_full] at e2
  have e2 : m_fours [.d (.int 9), .d (eP nine)] S = some (.ok (.d (.list [])), S) := e2
  have e3 := ev_into_days 9 (by decide) nine st S
  rw [N.into] at e3
  have e3 : m_into_days [.d (.int 9), .d (eP nine)] S = some (.ok (.d (.list ((dayL 9 nine).map eP))), S) := e3
  have q1 : isNotP (.bool true) (.bool true) = some false := rfl
  have q2 : oLen [.d (eP nine)] = some (.d (.int 12)) := rfl
  have q3 : neP (.int 12) (.int 12) = some false := rfl
  have q4 : neP (.list []) (.list []) = some false := rfl
  have q5 : neP (.int (((dayL 9 nine).length : Nat) : Int)) (.int 4) = some false := by rw [N.dlen]; rfl
  have h7 : eVar 7 (bor (E n c3 c4 (uP seven) (uP nine))) S = some (.ok (.d (eP nine)), S) := rfl
  unfold s11_law
  rw [ap_sIf]
  simp only [ap_tOrS, ap_tOf, ap_eOp, ap_eLst, ap_eBc, ap_eCall, ap_aCons, ap_aNil, ap_eC, h7, bnd_ok, sp_allD0, List.length_cons, List.length_nil, Nat.zero_add, Nat.zero_le, Nat.reduceAdd, if_true, e1, e2, e3, sp_oLen1, List.length_map, sp_cD, q1, q2, q3, q4, q5, Bool.false_eq_true, if_false]
  rfl
theorem l12 (c3 c4 : C) : s12_law (E n c3 c4 (uP seven) (uP nine)) S = some (.nx, E n c3 c4 (uP seven) (uP nine), S) := by
  have N := nine_of_full nine_full
  have st : standsB 9 nine = true := stands_iff.mpr ⟨N.g, N.up⟩
  have e1 := ev_days_in 9 (by decide) nine st S
  have e1 : m_days_in [.d (.int 9), .d (eP nine)] S = some (.ok (.d (.list ((dayL 9 nine).map eP))), S) := e1
  have e3 := ev_into_days 9 (by decide) nine st S
  rw [N.into] at e3
  have e3 : m_into_days [.d (.int 9), .d (eP nine)] S = some (.ok (.d (.list ((dayL 9 nine).map eP))), S) := e3
  have q1 : oIx (.d (.list ((dayL 9 nine).map eP))) (.d (.int 0)) = some (.d (eP l3')) := by
    have h := day9
    match hd : dayL 9 nine with
    | [] => rw [hd] at h; cases h
    | x :: r =>
      rw [hd] at h
      injection h with h
      rw [h, List.map_cons, sp_oIx1, at_zero]
  have q2 : neP (eP l3') (.tuple [.tuple [.int 0, .int 1, .int 2], .tuple [.int 3, .int 4, .int 5], .tuple [.int 6, .int 7, .int 8]]) = some false := rfl
  have q5 : neP (.int (((dayL 9 nine).length : Nat) : Int)) (.int 4) = some false := by rw [N.dlen]; rfl
  have h7 : eVar 7 (bor (E n c3 c4 (uP seven) (uP nine))) S = some (.ok (.d (eP nine)), S) := rfl
  unfold s12_law
  rw [ap_sIf]
  simp only [ap_tOrS, ap_tOf, ap_eOp, ap_eTup, ap_eBc, ap_eCall, ap_aCons, ap_aNil, ap_eC, h7, bnd_ok, sp_allD0, sp_allD1, List.length_cons, List.length_nil, Nat.zero_add, Nat.zero_le, Nat.reduceAdd, Nat.reduceLeDiff, if_true, e1, e3, sp_oLen1, List.length_map, sp_cD, q1, q2, q5, Bool.false_eq_true, if_false]
  rfl
end K10
set_option maxHeartbeats 1000000
namespace K10
open PySem DL PM PySem.W
variable {S : Sto}
theorem cf7 : m_count_full [.d (.int 7), .d (.tuple [])] S = some (.ok (.d (.int 30)), S) := by
  have e := ev_count_full 7 (by decide) [] (st0 7) S
  rw [c30] at e
  exact e
def two : PyData := .tuple [.tuple [.int 0, .int 1, .int 2], .tuple [.int 0, .int 3, .int 4]]
def W1 : En := [some (.u (.d two)), none, none]
def six : PyData := .tuple [.tuple [.int 0, .int 1, .int 2], .tuple [.int 0, .int 3, .int 4], .tuple [.int 1, .int 3, .int 5], .tuple [.int 2, .int 4, .int 5]]
def oth6 : PyData := .tuple [.tuple [.int 0, .int 1, .int 3], .tuple [.int 0, .int 2, .int 4], .tuple [.int 1, .int 2, .int 5], .tuple [.int 3, .int 4, .int 5]]
def W2 : En := [some (.u (.d two)), some (.u (.d six)), some (.u (.d oth6))]
theorem small : m__law_small_ones [] S = some (.ok (.d (.bool true)), S) := by
  unfold m__law_small_ones
  refine fn_rt (δ1 := W2) ?_
  refine seq_to (S1 := S) (δ1 := W1) rfl ?_
  refine seq_to (S1 := S) (δ1 := W1) (by kernel_rfl) ?_
  refine seq_to (S1 := S) (δ1 := W1) (by kernel_rfl) ?_
  refine seq_to (S1 := S) (δ1 := W1) (by kernel_rfl) ?_
  refine seq_to (S1 := S) (δ1 := W1) ?_ ?_
  · rw [ap_sIf, ap_tOrS]
    have e1 : tOf (eOp (cD isNotP) (eCall m_is_full 2 (aCons (eC (.int 3)) (aCons (eTup (aCons (eTup (aCons (eC (.int 0)) (aCons (eC (.int 1)) (aCons (eC (.int 2)) aNil)))) aNil)) aNil))) (eC (.bool true))) (bor W1) S = some (.ok false, S) := by kernel_rfl
    have e2 : tOf (eOp (cD neP) (eCall m_full_plan 2 (aCons (eC (.int 3)) (aCons (eTup aNil) aNil))) (eTup (aCons (eTup (aCons (eC (.int 0)) (aCons (eC (.int 1)) (aCons (eC (.int 2)) aNil)))) aNil))) (bor W1) S = some (.ok false, S) := by kernel_rfl
    have q : neP (.int 30) (.int 30) = some false := rfl
    rw [e1]
    simp only [bnd_ok, Bool.false_eq_true, if_false, ap_tOrS]
    rw [e2]
    simp only [bnd_ok, Bool.false_eq_true, if_false, ap_tOf, ap_eOp, ap_eCall, ap_aCons, ap_aNil, ap_eTup, ap_eC, sp_allD0, List.length_nil, List.length_cons, Nat.zero_le, if_true, Nat.zero_add, Nat.reduceAdd, cf7, sp_cD, q]
    rfl
  refine seq_to (S1 := S) (δ1 := [some (.u (.d two)), some (.u (.d six)), none]) rfl ?_
  refine seq_to (S1 := S) (δ1 := W2) rfl ?_
  refine seq_to (S1 := S) (δ1 := W2) (by kernel_rfl) ?_
  refine seq_to (S1 := S) (δ1 := W2) (by kernel_rfl) ?_
  refine seq_to (S1 := S) (δ1 := W2) (by kernel_rfl) ?_
  exact seq_rt (by kernel_rfl)
theorem plain : ∀ ns : List Int, ns.length ≤ 63 → ∃ S', m_law ns [.sc] ⟨none, []⟩ = some (.ok (.d (.bool true)), S') := by
  intro ns h63
  obtain ⟨z, z0, z1, e0⟩ := draw ns h63 0 (by decide) 7 (by decide) []
  obtain ⟨n, hnz⟩ : ∃ n : Nat, 3 + z = (n : Int) := ⟨(3 + z).toNat, by omega⟩
  have hn : 3 ≤ n ∧ n ≤ 9 := by omega
  have h35 := l35 (n := n) (S := ⟨some 1, []⟩) hn
  rw [← seq_assoc, ← seq_assoc] at h35
  refine ⟨⟨some 1, []⟩, ?_⟩
  unfold m_law
  refine fn_rt (δ1 := E n (uP (fst n)) (uI (due n)) (uP seven) (uP nine)) ?_
  refine seq_to (δ1 := [some (.u .sc), some (.u .tw), none, none, none, none, none, none]) (S1 := ⟨some 0, []⟩) rfl ?_
  refine seq_to (δ1 := E n none none none none) (S1 := ⟨some 1, []⟩) ?_ ?_
  · unfold s1_law
    simp [e0, hnz, E]
  refine seq_to (l2 hn) ?_
  have key : sSeq (sSeq (sSeq (sSeq s3_law s4_law) s5_law) sNil) (sSeq s6_law (sSeq s7_law (sSeq s8_law (sSeq s9_law (sSeq s10_law (sSeq s11_law (sSeq s12_law (sSeq s13_law sNil)))))))) (E n (uP (fst n)) none none none) ⟨some 1, []⟩ = some (.rt (.d (.bool true)), E n (uP (fst n)) (uI (due n)) (uP seven) (uP nine), ⟨some 1, []⟩) := by
    refine seq_to h35 (seq_to (l6 _ _) (seq_to (l7 _ _) (seq_to (δ1 := E n (uP (fst n)) (uI (due n)) (uP seven) none) (S1 := ⟨some 1, []⟩) rfl (seq_to (l9 _ _) (seq_to (l10 _ _) (seq_to (l11 _ _) (seq_to (l12 _ _) (seq_rt ?_))))))))
    unfold s13_law
    rw [ap_sRet, ap_eCall0, small]
  rw [seq_assoc, seq_assoc, seq_assoc, seq_nil] at key
  exact key
end K10
open PySem PySem.W PyProof.Rows DL
set_option maxHeartbeats 0 in
theorem PySem.Challenge.cw_threeplans_k10_whole_known_plans_holds : PySem.Challenge.rw_threeplans_k10_whole_known_plans.Holds := by
  w_on; o_law; k_head; (case hw => w_witness2)
  k_fill
  refine DL.law_end (k := 7) (x := "script") rfl rfl ⟨rfl, by decide, by decide⟩ (fun w h Y => PySem.W.kIn_of Y) ?F
  case F =>
    intro w mg fa h KX G hmg
    refine K10.law_mk K10.plain ?T KX G hmg
    refine' { b_all := ?b_all, b_any := ?b_any, b_bool := ?b_bool, b_int := ?b_int, b_isinstance := ?b_isinstance, b_len := ?b_len, b_list := ?b_list, b_max := ?b_max, b_min := ?b_min, b_range := ?b_range, b_set := ?b_set, b_sorted := ?b_sorted, b_tuple := ?b_tuple, b_zip := ?b_zip, x_InvalidFour := exIn (x := "InvalidFour") rfl ?xa_InvalidFour ?xq_InvalidFour ?xk_InvalidFour ?xs_InvalidFour ?xt_InvalidFour, x_InvalidNames := exIn (x := "InvalidNames") rfl ?xa_InvalidNames ?xq_InvalidNames ?xk_InvalidNames ?xs_InvalidNames ?xt_InvalidNames, x_InvalidPlan := exIn (x := "InvalidPlan") rfl ?xa_InvalidPlan ?xq_InvalidPlan ?xk_InvalidPlan ?xs_InvalidPlan ?xt_InvalidPlan, x_InvalidPlayer := exIn (x := "InvalidPlayer") rfl ?xa_InvalidPlayer ?xq_InvalidPlayer ?xk_InvalidPlayer ?xs_InvalidPlayer ?xt_InvalidPlayer, x_InvalidPlayers := exIn (x := "InvalidPlayers") rfl ?xa_InvalidPlayers ?xq_InvalidPlayers ?xk_InvalidPlayers ?xs_InvalidPlayers ?xt_InvalidPlayers, x_NoDays := exIn (x := "NoDays") rfl ?xa_NoDays ?xq_NoDays ?xk_NoDays ?xs_NoDays ?xt_NoDays, x_NoPlan := exIn (x := "NoPlan") rfl ?xa_NoPlan ?xq_NoPlan ?xk_NoPlan ?xs_NoPlan ?xt_NoPlan, d_is_integer := defIn ?da_is_integer ?dl_is_integer ?dc_is_integer ?dk_is_integer, d_check_players := defIn ?da_check_players ?dl_check_players ?dc_check_players ?dk_check_players, d_fits := defIn ?da_fits ?dl_fits ?dc_fits ?dk_fits, d_pairs_of := defIn ?da_pairs_of ?dl_pairs_of ?dc_pairs_of ?dk_pairs_of, d_pairs_met := defIn ?da_pairs_met ?dl_pairs_met ?dc_pairs_met ?dk_pairs_met, d_stands := defIn ?da_stands ?dl_stands ?dc_stands ?dk_stands, d_is_plan := defIn ?da_is_plan ?dl_is_plan ?dc_is_plan ?dk_is_plan, d_check_plan := defIn ?da_check_plan ?dl_check_plan ?dc_check_plan ?dk_check_plan, d_all_pairs := defIn ?da_all_pairs ?dl_all_pairs ?dc_all_pairs ?dk_all_pairs, d_left_of := defIn ?da_left_of ?dl_left_of ?dc_left_of ?dk_left_of, d_pairs_left := defIn ?da_pairs_left ?dl_pairs_left ?dc_pairs_left ?dk_pairs_left, d_is_full := defIn ?da_is_full ?dl_is_full ?dc_is_full ?dk_is_full, d_partners := defIn ?da_partners ?dl_partners ?dc_partners ?dk_partners, d_open_list := defIn ?da_open_list ?dl_open_list ?dc_open_list ?dk_open_list, d_open_threes := defIn ?da_open_threes ?dl_open_threes ?dc_open_threes ?dk_open_threes, d_completion := defIn ?da_completion ?dl_completion ?dc_completion ?dk_completion, d_greatest := defIn ?da_greatest ?dl_greatest ?dc_greatest ?dk_greatest, d_full_plans := defIn ?da_full_plans ?dl_full_plans ?dc_full_plans ?dk_full_plans, d_full_plan := defIn ?da_full_plan ?dl_full_plan ?dc_full_plan ?dk_full_plan, d_count_full := defIn ?da_count_full ?dl_count_full ?dc_count_full ?dk_count_full, d_makes_day := defIn ?da_makes_day ?dl_makes_day ?dc_makes_day ?dk_makes_day, d_is_day := defIn ?da_is_day ?dl_is_day ?dc_is_day ?dk_is_day, d_day_list := defIn ?da_day_list ?dl_day_list ?dc_day_list ?dk_day_list, d_days_in := defIn ?da_days_in ?dl_days_in ?dc_days_in ?dk_days_in, d_into_days := defIn ?da_into_days ?dl_into_days ?dc_into_days ?dk_into_days, d_players_of := defIn ?da_players_of ?dl_players_of ?dc_players_of ?dk_players_of, d_four_list := defIn ?da_four_list ?dl_four_list ?dc_four_list ?dk_four_list, d_fours := defIn ?da_fours ?dl_fours ?dc_fours ?dk_fours, d_opposite := defIn ?da_opposite ?dl_opposite ?dc_opposite ?dk_opposite, d_exchanged := defIn ?da_exchanged ?dl_exchanged ?dc_exchanged ?dk_exchanged, d_named := defIn ?da_named ?dl_named ?dc_named ?dk_named, d_renamed := defIn ?da_renamed ?dl_renamed ?dc_renamed ?dk_renamed, d_goes := defIn ?da_goes ?dl_goes ?dc_goes ?dk_goes, d_names_between := defIn ?da_names_between ?dl_names_between ?dc_names_between ?dk_names_between, d__law_cell_at := defIn ?da__law_cell_at ?dl__law_cell_at ?dc__law_cell_at ?dk__law_cell_at, d__law_mixed := defIn ?da__law_mixed ?dl__law_mixed ?dc__law_mixed ?dk__law_mixed, d__law_draw := defIn ?da__law_draw ?dl__law_draw ?dc__law_draw ?dk__law_draw, d__law_small_ones := defIn ?da__law_small_ones ?dl__law_small_ones ?dc__law_small_ones ?dk__law_small_ones, d_law := defIn ?da_law ?dl_law ?dc_law ?dk_law }
    (case b_all => k_is)
    (case b_any => k_is)
    (case b_bool => k_is)
    (case b_int => k_is)
    (case b_isinstance => k_is)
    (case b_len => k_is)
    (case b_list => k_is)
    (case b_max => k_is)
    (case b_min => k_is)
    (case b_range => k_is)
    (case b_set => k_is)
    (case b_sorted => k_is)
    (case b_tuple => k_is)
    (case b_zip => k_is)
    (case xa_InvalidFour => k_is); (case xq_InvalidFour => k_exc); (case xk_InvalidFour => k_is); (case xs_InvalidFour => k_is); (case xt_InvalidFour => k_is)
    (case xa_InvalidNames => k_is); (case xq_InvalidNames => k_exc); (case xk_InvalidNames => k_is); (case xs_InvalidNames => k_is); (case xt_InvalidNames => k_is)
    (case xa_InvalidPlan => k_is); (case xq_InvalidPlan => k_exc); (case xk_InvalidPlan => k_is); (case xs_InvalidPlan => k_is); (case xt_InvalidPlan => k_is)
    (case xa_InvalidPlayer => k_is); (case xq_InvalidPlayer => k_exc); (case xk_InvalidPlayer => k_is); (case xs_InvalidPlayer => k_is); (case xt_InvalidPlayer => k_is)
    (case xa_InvalidPlayers => k_is); (case xq_InvalidPlayers => k_exc); (case xk_InvalidPlayers => k_is); (case xs_InvalidPlayers => k_is); (case xt_InvalidPlayers => k_is)
    (case xa_NoDays => k_is); (case xq_NoDays => k_exc); (case xk_NoDays => k_is); (case xs_NoDays => k_is); (case xt_NoDays => k_is)
    (case xa_NoPlan => k_is); (case xq_NoPlan => k_exc); (case xk_NoPlan => k_is); (case xs_NoPlan => k_is); (case xt_NoPlan => k_is)
    (case da_is_integer => k_is); (case dl_is_integer => k_is); (case dc_is_integer => k_is); (case dk_is_integer => k_is)
    (case da_check_players => k_is); (case dl_check_players => k_is); (case dc_check_players => k_is); (case dk_check_players => k_is)
    (case da_fits => k_is); (case dl_fits => k_is); (case dc_fits => k_is); (case dk_fits => k_is)
    (case da_pairs_of => k_is); (case dl_pairs_of => k_is); (case dc_pairs_of => k_is); (case dk_pairs_of => k_is)
    (case da_pairs_met => k_is); (case dl_pairs_met => k_is); (case dc_pairs_met => k_is); (case dk_pairs_met => k_is)
    (case da_stands => k_is); (case dl_stands => k_is); (case dc_stands => k_is); (case dk_stands => k_is)
    (case da_is_plan => k_is); (case dl_is_plan => k_is); (case dc_is_plan => k_is); (case dk_is_plan => k_is)
    (case da_check_plan => k_is); (case dl_check_plan => k_is); (case dc_check_plan => k_is); (case dk_check_plan => k_is)
    (case da_all_pairs => k_is); (case dl_all_pairs => k_is); (case dc_all_pairs => k_is); (case dk_all_pairs => k_is)
    (case da_left_of => k_is); (case dl_left_of => k_is); (case dc_left_of => k_is); (case dk_left_of => k_is)
    (case da_pairs_left => k_is); (case dl_pairs_left => k_is); (case dc_pairs_left => k_is); (case dk_pairs_left => k_is)
    (case da_is_full => k_is); (case dl_is_full => k_is); (case dc_is_full => k_is); (case dk_is_full => k_is)
    (case da_partners => k_is); (case dl_partners => k_is); (case dc_partners => k_is); (case dk_partners => k_is)
    (case da_open_list => k_is); (case dl_open_list => k_is); (case dc_open_list => k_is); (case dk_open_list => k_is)
    (case da_open_threes => k_is); (case dl_open_threes => k_is); (case dc_open_threes => k_is); (case dk_open_threes => k_is)
    (case da_completion => k_is); (case dl_completion => k_is); (case dc_completion => k_is); (case dk_completion => k_is)
    (case da_greatest => k_is); (case dl_greatest => k_is); (case dc_greatest => k_is); (case dk_greatest => k_is)
    (case da_full_plans => k_is); (case dl_full_plans => k_is); (case dc_full_plans => k_is); (case dk_full_plans => k_is)
    (case da_full_plan => k_is); (case dl_full_plan => k_is); (case dc_full_plan => k_is); (case dk_full_plan => k_is)
    (case da_count_full => k_is); (case dl_count_full => k_is); (case dc_count_full => k_is); (case dk_count_full => k_is)
    (case da_makes_day => k_is); (case dl_makes_day => k_is); (case dc_makes_day => k_is); (case dk_makes_day => k_is)
    (case da_is_day => k_is); (case dl_is_day => k_is); (case dc_is_day => k_is); (case dk_is_day => k_is)
    (case da_day_list => k_is); (case dl_day_list => k_is); (case dc_day_list => k_is); (case dk_day_list => k_is)
    (case da_days_in => k_is); (case dl_days_in => k_is); (case dc_days_in => k_is); (case dk_days_in => k_is)
    (case da_into_days => k_is); (case dl_into_days => k_is); (case dc_into_days => k_is); (case dk_into_days => k_is)
    (case da_players_of => k_is); (case dl_players_of => k_is); (case dc_players_of => k_is); (case dk_players_of => k_is)
    (case da_four_list => k_is); (case dl_four_list => k_is); (case dc_four_list => k_is); (case dk_four_list => k_is)
    (case da_fours => k_is); (case dl_fours => k_is); (case dc_fours => k_is); (case dk_fours => k_is)
    (case da_opposite => k_is); (case dl_opposite => k_is); (case dc_opposite => k_is); (case dk_opposite => k_is)
    (case da_exchanged => k_is); (case dl_exchanged => k_is); (case dc_exchanged => k_is); (case dk_exchanged => k_is)
    (case da_named => k_is); (case dl_named => k_is); (case dc_named => k_is); (case dk_named => k_is)
    (case da_renamed => k_is); (case dl_renamed => k_is); (case dc_renamed => k_is); (case dk_renamed => k_is)
    (case da_goes => k_is); (case dl_goes => k_is); (case dc_goes => k_is); (case dk_goes => k_is)
    (case da_names_between => k_is); (case dl_names_between => k_is); (case dc_names_between => k_is); (case dk_names_between => k_is)
    (case da__law_cell_at => k_is); (case dl__law_cell_at => k_is); (case dc__law_cell_at => k_is); (case dk__law_cell_at => k_is)
    (case da__law_mixed => k_is); (case dl__law_mixed => k_is); (case dc__law_mixed => k_is); (case dk__law_mixed => k_is)
    (case da__law_draw => k_is); (case dl__law_draw => k_is); (case dc__law_draw => k_is); (case dk__law_draw => k_is)
    (case da__law_small_ones => k_is); (case dl__law_small_ones => k_is); (case dc__law_small_ones => k_is); (case dk__law_small_ones => k_is)
    (case da_law => k_is); (case dl_law => k_is); (case dc_law => k_is); (case dk_law => k_is)
