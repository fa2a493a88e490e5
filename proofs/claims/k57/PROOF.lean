import PyProof.Rows.All
import Wide.All
import OpenK.AllK
import Wide.FinOn
import KE.KStateDown
import KE.KLam
import HandS.ForMost
import HandS.Exc
import HandS.ExcOwn
import HandS.ExcCtx
import HandS.ExcIs
import HandS.TryOnly
import HandS.Lambda
import HandS.Hot
import HandS.HotCalls
import HandS.IsInst
import HandS.Gcd
import HandS.Wide
import HandS.WideMore
import HandS.Zip
import HandS.TupMul
import HandS.TupAny
import HandS.Style
import HandS.Flow
import HandS.Deep
import HandS.WordsExc
import HandS.SortInts
import HandS.RaiseMore
import Wide.Txt2
import HandS.Dict
import KE.KTupSum
import KE.KDictDisplayH
import KE.GoesEnum
import HandS.HeadHook4
import HandS.HeadWalk
import HandS.Defaults
import PySem.Challenge.RW_sumsclosed_k57_whole_ruled_triangles
import HandS.Head0
import HandS.Head1
import HandS.Head2
import HandS.Head3
import HandS.HeadEnd
import HandS.HeadHook1
import HandS.HeadHook2
import HandS.HeadHook3
set_option Elab.async false
set_option linter.all false
set_option maxRecDepth 100000
set_option maxHeartbeats 4000000
namespace Co
open PySem PySem.Spec PyProof.Rows L2
inductive D where
  | non | bl (b : Bool) | int (i : Int) | str (x : Str) | tup (l : List D) | lst (l : List D) | cup | fn (g : Nat) | thk | exc (g : Nat) (n : Int) | scr (l : List Int)
structure Mo where
  K : PySem.W.Frag
  at_ : Nat → Addr
  T : List (Addr × Str)
  exc : Option (Addr × Nat × Int) := none
  thk : Option (Addr × Addr × Str) := none
  scr : Option (Addr × List Int) := none
  held : List (V × D) := []
structure Gh where
  Z : Addr → Prop
  cup : Option Addr
mutual
inductive Rp (Γ : Mo) (G : Gh) (H : Hp) : V → D → Prop
  | non : Rp Γ G H .non .non
  | bl (b : Bool) : Rp Γ G H (.bl b) (.bl b)
  | int (i : Int) : Rp Γ G H (.int i) (.int i)
  | str (x : Str) : Rp Γ G H (.str x) (.str x)
  | lst {a : Addr} {xs : List V} {ds : List D} : G.Z a → H a = some (.lst xs) → Rps Γ G H xs ds → Rp Γ G H (.ref a) (.lst ds)
  | tup {a : Addr} {xs : List V} {ds : List D} : SqT Γ.K H a xs → Rps Γ G H xs ds → Rp Γ G H (.ref a) (.tup ds)
  | cup {a : Addr} : G.cup = some a → Rp Γ G H (.ref a) .cup
  | fn (g : Nat) : Rp Γ G H (.ref (Γ.at_ g)) (.fn g)
  | thk {f c : Addr} {q : Str} : Γ.thk = some (f, c, q) → Rp Γ G H (.ref f) .thk
  | exc {a : Addr} {g : Nat} {n : Int} : Γ.exc = some (a, g, n) → Rp Γ G H (.ref a) (.exc g n)
  | scr {a : Addr} {ns : List Int} : Γ.scr = some (a, ns) → Rp Γ G H (.ref a) (.scr ns)
inductive Rps (Γ : Mo) (G : Gh) (H : Hp) : List V → List D → Prop
  | nil : Rps Γ G H [] []
  | cons {v : V} {vs : List V} {d : D} {ds : List D} : Rp Γ G H v d → Rps Γ G H vs ds → Rps Γ G H (v :: vs) (d :: ds)
end
structure Grow (G : Gh) (H : Hp) (G' : Gh) (H' : Hp) : Prop where
  z : ∀ a, G.Z a → G'.Z a
  nz : ∀ a, G'.Z a → G.Z a ∨ H a = none
  cup : ∀ a, G.cup = some a → G'.cup = some a
  ncup : ∀ a, G'.cup = some a → G.cup = some a ∨ H a = none
  keep : ∀ a o, H a = some o → G.cup ≠ some a → (∀ ps, o ≠ .tbl ps) → H' a = some o
  there : ∀ a, H' a = none → H a = none
theorem Grow.refl (G : Gh) (H : Hp) : Grow G H G H := ⟨fun _ h => h, fun _ h => .inl h, fun _ h => h, fun _ h => .inl h, fun _ _ h _ _ => h, fun _ h => h⟩
theorem Grow.trans {G G1 G2 : Gh} {H H1 H2 : Hp} (a : Grow G H G1 H1) (b : Grow G1 H1 G2 H2) : Grow G H G2 H2 where
  z := fun x h => b.z x (a.z x h)
  nz := fun x h => (b.nz x h).elim (a.nz x) fun e => .inr (a.there x e)
  cup := fun x h => b.cup x (a.cup x h)
  ncup := fun x h => (b.ncup x h).elim (a.ncup x) fun e => .inr (a.there x e)
  keep := fun x o h hc ht => b.keep x o (a.keep x o h hc ht) (fun e => (a.ncup x e).elim hc fun e2 => by rw [h] at e2; cases e2) ht
  there := fun x h => a.there x (b.there x h)
def ScrOk (Γ : Mo) (G : Gh) (H : Hp) (a : Addr) (xs : List V) : Prop := (∃ o, H a = some (.frz o (.lst xs))) ∨ (G.Z a ∧ H a = some (.lst xs)) ∨
  ∃ (o : Obj) (its : Array Value) (n : Nat), Γ.K.lookup a = some o ∧ o.cls = .type "list" ∧ o.dict = none ∧ o.data = .seq its n ∧ its.size ≤ sizeLine ∧ Vals xs its.toList
theorem ScrOk.sq {Γ : Mo} {G : Gh} {H : Hp} {a : Addr} {xs : List V} (h : ScrOk Γ G H a xs) : SqL Γ.K H a xs := by
  rcases h with ⟨o, h⟩ | ⟨_, h⟩ | h
  · exact .inl (.inr ⟨o, h⟩)
  · exact .inl (.inl h)
  · exact .inr h
theorem ScrOk.to {Γ : Mo} {G G' : Gh} {H H' : Hp} {a : Addr} {xs : List V} (h : ScrOk Γ G H a xs) (hz : ∀ a, G.Z a → G'.Z a) (sm : ∀ u, H a = some u → (G.Z a ∨ ∀ zs, u ≠ .lst zs) → H' a = some u) : ScrOk Γ G' H' a xs := by
  rcases h with ⟨o, h⟩ | ⟨z, h⟩ | h
  · exact .inl ⟨o, sm _ h (.inr fun _ z => nomatch z)⟩
  · exact .inr (.inl ⟨hz a z, sm _ h (.inl z)⟩)
  · exact .inr (.inr h)
structure SOk (Γ : Mo) (G : Gh) (H : Hp) (s : Option (Int × Int)) : Prop where
  cup : match s with
    | none => G.cup = none
    | some (x, y) => ∃ a, G.cup = some a ∧ H a = some (.lst [.int x, .int y]) ∧ ¬ G.Z a
  tabs : LamX.Tabs Γ.T H
  thk : ∀ f c q, Γ.thk = some (f, c, q) → H c = some (LamX.CodeO c q)
  scr : ∀ a ns, Γ.scr = some (a, ns) → ScrOk Γ G H a (ns.map V.int)
  zl : ∀ a, G.Z a → ∃ xs, H a = some (.lst xs)
  held : ∀ p ∈ Γ.held, Rp Γ G H p.1 p.2
theorem SOk.zin {Γ : Mo} {G : Gh} {H : Hp} {s : Option (Int × Int)} (k : SOk Γ G H s) (a : Addr) (z : G.Z a) : H a ≠ none := by
  obtain ⟨xs, e⟩ := k.zl a z
  rw [e]; exact fun z => nomatch z
theorem SOk.nz {Γ : Mo} {G : Gh} {H : Hp} {s : Option (Int × Int)} (k : SOk Γ G H s) {a : Addr} (h : G.cup = some a) : ¬ G.Z a := by
  cases s with
  | none =>
    have e : G.cup = none := k.cup
    rw [e] at h; cases h
  | some p =>
    obtain ⟨x, y⟩ := p
    obtain ⟨b, e, _, n⟩ := k.cup
    rw [e] at h; cases h
    exact n
theorem SOk.nc {Γ : Mo} {G : Gh} {H : Hp} {s : Option (Int × Int)} (k : SOk Γ G H s) {a : Addr} {o : HO} (e : H a = some o) (n : ∀ zs, o ≠ .lst zs) : G.cup ≠ some a := fun z => by
  cases s with
  | none =>
    have e2 : G.cup = none := k.cup
    rw [e2] at z; cases z
  | some p =>
    obtain ⟨x, y⟩ := p
    obtain ⟨b, e2, e3, _⟩ := k.cup
    rw [e2] at z; cases z
    rw [e] at e3; cases e3
    exact n _ rfl
theorem sqL_grow {K : PySem.W.Frag} {G G' : Gh} {H H' : Hp} (g : Grow G H G' H') {a : Addr} {xs : List V} (hc : G.cup ≠ some a) (h : SqL K H a xs) : SqL K H' a xs := by
  rcases h with (h | ⟨o, h⟩) | h
  · exact .inl (.inl (g.keep a _ h hc (fun _ z => nomatch z)))
  · exact .inl (.inr ⟨o, g.keep a _ h hc (fun _ z => nomatch z)⟩)
  · exact .inr h
theorem sqT_grow {Γ : Mo} {G G' : Gh} {H H' : Hp} {s : Option (Int × Int)} (k : SOk Γ G H s) (g : Grow G H G' H') {a : Addr} {xs : List V} (h : SqT Γ.K H a xs) : SqT Γ.K H' a xs := by
  rcases h with (h | ⟨o, h⟩) | h
  · exact .inl (.inl (g.keep a _ h (k.nc h fun _ z => nomatch z) (fun _ z => nomatch z)))
  · exact .inl (.inr ⟨o, g.keep a _ h (k.nc h fun _ z => nomatch z) (fun _ z => nomatch z)⟩)
  · exact .inr h
mutual
theorem Rp.grow {Γ : Mo} {G G' : Gh} {H H' : Hp} {s : Option (Int × Int)} (k : SOk Γ G H s) (g : Grow G H G' H') : ∀ {v : V} {d : D}, Rp Γ G H v d → Rp Γ G' H' v d
  | _, _, .non => .non
  | _, _, .bl b => .bl b
  | _, _, .int i => .int i
  | _, _, .str x => .str x
  | _, _, .lst z h r => .lst (g.z _ z) (g.keep _ _ h (fun e => k.nz e z) (fun _ z => nomatch z)) (Rps.grow k g r)
  | _, _, .tup h r => .tup (sqT_grow k g h) (Rps.grow k g r)
  | _, _, .cup h => .cup (g.cup _ h)
  | _, _, .fn i => .fn i
  | _, _, .thk h => .thk h
  | _, _, .exc h => .exc h
  | _, _, .scr h => .scr h
theorem Rps.grow {Γ : Mo} {G G' : Gh} {H H' : Hp} {s : Option (Int × Int)} (k : SOk Γ G H s) (g : Grow G H G' H') : ∀ {vs : List V} {ds : List D}, Rps Γ G H vs ds → Rps Γ G' H' vs ds
  | _, _, .nil => .nil
  | _, _, .cons h r => .cons (Rp.grow k g h) (Rps.grow k g r)
end
def fx : HO → Bool
  | .tbl _ => false
  | .dT _ => false
  | .dK _ => false
  | _ => true
theorem fx_tbl {o : HO} (h : fx o = true) : ∀ ps, o ≠ .tbl ps := fun ps e => by subst e; cases h
structure GrowZ (G : Gh) (H : Hp) (G' : Gh) (H' : Hp) : Prop where
  z : ∀ a, G.Z a → G'.Z a
  cup : ∀ a, G.cup = some a → G'.cup = some a
  keep : ∀ a o, H a = some o → fx o = true → (G.Z a ∨ ∀ zs, o ≠ .lst zs) → H' a = some o
theorem GrowZ.refl (G : Gh) (H : Hp) : GrowZ G H G H := ⟨fun _ h => h, fun _ h => h, fun _ _ h _ _ => h⟩
theorem GrowZ.trans {G G1 G2 : Gh} {H H1 H2 : Hp} (a : GrowZ G H G1 H1) (b : GrowZ G1 H1 G2 H2) : GrowZ G H G2 H2 :=
  ⟨fun x h => b.z x (a.z x h), fun x h => b.cup x (a.cup x h), fun x o h t c => b.keep x o (a.keep x o h t c) t (c.elim (fun z => .inl (a.z x z)) .inr)⟩
theorem Grow.toZ {Γ : Mo} {G G' : Gh} {H H' : Hp} {s : Option (Int × Int)} (g : Grow G H G' H') (k : SOk Γ G H s) : GrowZ G H G' H' :=
  ⟨g.z, g.cup, fun a o h t c => g.keep a o h (fun q => c.elim (k.nz q) fun n => k.nc h n q) (fx_tbl t)⟩
theorem sqT_growZ {Γ : Mo} {G G' : Gh} {H H' : Hp} (g : GrowZ G H G' H') {a : Addr} {xs : List V} (h : SqT Γ.K H a xs) : SqT Γ.K H' a xs := by
  rcases h with (h | ⟨o, h⟩) | h
  · exact .inl (.inl (g.keep a _ h rfl (.inr fun _ z => nomatch z)))
  · exact .inl (.inr ⟨o, g.keep a _ h rfl (.inr fun _ z => nomatch z)⟩)
  · exact .inr h
mutual
theorem Rp.growZ {Γ : Mo} {G G' : Gh} {H H' : Hp} (g : GrowZ G H G' H') : ∀ {v : V} {d : D}, Rp Γ G H v d → Rp Γ G' H' v d
  | _, _, .non => .non
  | _, _, .bl b => .bl b
  | _, _, .int i => .int i
  | _, _, .str x => .str x
  | _, _, .lst z h r => .lst (g.z _ z) (g.keep _ _ h rfl (.inl z)) (Rps.growZ g r)
  | _, _, .tup h r => .tup (sqT_growZ g h) (Rps.growZ g r)
  | _, _, .cup h => .cup (g.cup _ h)
  | _, _, .fn i => .fn i
  | _, _, .thk h => .thk h
  | _, _, .exc h => .exc h
  | _, _, .scr h => .scr h
theorem Rps.growZ {Γ : Mo} {G G' : Gh} {H H' : Hp} (g : GrowZ G H G' H') : ∀ {vs : List V} {ds : List D}, Rps Γ G H vs ds → Rps Γ G' H' vs ds
  | _, _, .nil => .nil
  | _, _, .cons h r => .cons (Rp.growZ g h) (Rps.growZ g r)
end
theorem Rps.length {Γ : Mo} {G : Gh} {H : Hp} : ∀ {vs : List V} {ds : List D}, Rps Γ G H vs ds → vs.length = ds.length
  | _, _, .nil => rfl
  | _, _, .cons _ r => congrArg (· + 1) r.length
theorem Rps.get {Γ : Mo} {G : Gh} {H : Hp} : ∀ {vs : List V} {ds : List D} {i : Nat} {d : D}, Rps Γ G H vs ds → ds[i]? = some d → ∃ v, vs[i]? = some v ∧ Rp Γ G H v d
  | _, _, _, _, .nil, e => by simp at e
  | _, _, 0, _, .cons h _, e => by
    simp at e; subst e; exact ⟨_, rfl, h⟩
  | _, _, i + 1, _, .cons _ r, e => by
    obtain ⟨v, e1, h⟩ := Rps.get (i := i) r (by simpa using e)
    exact ⟨v, by simpa using e1, h⟩
theorem Rps.append {Γ : Mo} {G : Gh} {H : Hp} : ∀ {vs ws : List V} {ds es : List D}, Rps Γ G H vs ds → Rps Γ G H ws es → Rps Γ G H (vs ++ ws) (ds ++ es)
  | _, _, _, _, .nil, s => s
  | _, _, _, _, .cons h r, s => .cons h (Rps.append r s)
theorem Rps.set {Γ : Mo} {G : Gh} {H : Hp} {v : V} {d : D} (h : Rp Γ G H v d) : ∀ {vs : List V} {ds : List D} (i : Nat), Rps Γ G H vs ds → Rps Γ G H (vs.set i v) (ds.set i d)
  | _, _, _, .nil => .nil
  | _, _, 0, .cons _ r => .cons h r
  | _, _, i + 1, .cons a r => .cons a (Rps.set h i r)
theorem Rps.take {Γ : Mo} {G : Gh} {H : Hp} : ∀ {vs : List V} {ds : List D} (n : Nat), Rps Γ G H vs ds → Rps Γ G H (vs.take n) (ds.take n)
  | _, _, 0, _ => by simp; exact .nil
  | _, _, _ + 1, .nil => .nil
  | _, _, n + 1, .cons h r => .cons h (Rps.take n r)
theorem Rps.drop {Γ : Mo} {G : Gh} {H : Hp} : ∀ {vs : List V} {ds : List D} (n : Nat), Rps Γ G H vs ds → Rps Γ G H (vs.drop n) (ds.drop n)
  | _, _, 0, r => r
  | _, _, _ + 1, .nil => .nil
  | _, _, n + 1, .cons _ r => Rps.drop n r
theorem Rps.reverse {Γ : Mo} {G : Gh} {H : Hp} {vs : List V} {ds : List D} (r : Rps Γ G H vs ds) : Rps Γ G H vs.reverse ds.reverse := by
  induction vs generalizing ds with
  | nil => cases r; exact .nil
  | cons v vs ih =>
    cases r with
    | cons h r =>
      rw [List.reverse_cons, List.reverse_cons]
      exact (ih r).append (.cons h .nil)
theorem Rps.dropLast {Γ : Mo} {G : Gh} {H : Hp} {vs : List V} {ds : List D} (r : Rps Γ G H vs ds) : Rps Γ G H vs.dropLast ds.dropLast := by
  rw [List.dropLast_eq_take, List.dropLast_eq_take, r.length]
  exact r.take _
theorem Rps.rep {Γ : Mo} {G : Gh} {H : Hp} {vs : List V} {ds : List D} (r : Rps Γ G H vs ds) : ∀ k : Nat, Rps Γ G H (List.replicate k vs).flatten (List.replicate k ds).flatten
  | 0 => .nil
  | k + 1 => by
    simp only [List.replicate_succ, List.flatten_cons]
    exact r.append (Rps.rep r k)
def Gh.add (G : Gh) (p : Addr) : Gh := { G with Z := fun a => G.Z a ∨ a = p }
mutual
theorem Rp.add {Γ : Mo} {G : Gh} {H : Hp} (p : Addr) : ∀ {v : V} {d : D}, Rp Γ G H v d → Rp Γ (G.add p) H v d
  | _, _, .non => .non
  | _, _, .bl b => .bl b
  | _, _, .int i => .int i
  | _, _, .str x => .str x
  | _, _, .lst z h r => .lst (.inl z) h (Rps.add p r)
  | _, _, .tup h r => .tup h (Rps.add p r)
  | _, _, .cup h => .cup h
  | _, _, .fn i => .fn i
  | _, _, .thk h => .thk h
  | _, _, .exc h => .exc h
  | _, _, .scr h => .scr h
theorem Rps.add {Γ : Mo} {G : Gh} {H : Hp} (p : Addr) : ∀ {vs : List V} {ds : List D}, Rps Γ G H vs ds → Rps Γ (G.add p) H vs ds
  | _, _, .nil => .nil
  | _, _, .cons h r => .cons (Rp.add p h) (Rps.add p r)
end
theorem SOk.add {Γ : Mo} {G : Gh} {H : Hp} {s : Option (Int × Int)} (k : SOk Γ G H s) {p : Addr} {xs : List V} (hp : G.cup ≠ some p) (hx : H p = some (.lst xs)) : SOk Γ (G.add p) H s := by
  refine ⟨?_, k.tabs, k.thk, fun a ns e => (k.scr a ns e).to (fun _ z => .inl z) (fun _ h _ => h), fun a z => z.elim (k.zl a) fun e => ⟨xs, by rw [e]; exact hx⟩, fun q hq => (k.held q hq).add p⟩
  cases s with
  | none => exact k.cup
  | some q =>
    obtain ⟨x, y⟩ := q
    obtain ⟨a, e, e1, n⟩ := k.cup
    exact ⟨a, e, e1, fun z => z.elim n fun z => hp (by rw [e, z])⟩
theorem Grow.add {G G' : Gh} {H H' : Hp} (g : Grow G H G' H') {p : Addr} (hp : H p = none) : Grow G H (G'.add p) H' :=
  ⟨fun a h => .inl (g.z a h), fun a h => h.elim (g.nz a) fun e => .inr (by rw [e]; exact hp), g.cup, g.ncup, g.keep, g.there⟩
theorem Grow.upd (G : Gh) {H : Hp} {p : Addr} (o : HO) (hp : H p = none) : Grow G H G (L2.upd H p o) :=
  ⟨fun _ h => h, fun _ h => .inl h, fun _ h => h, fun _ h => .inl h, fun a u e _ _ => by rw [upd_ne (ne_of_none e hp)]; exact e, fun a e => by
    by_cases h : a = p
    · rw [h, upd_same] at e; cases e
    · rw [upd_ne h] at e; exact e⟩
theorem GrowZ.upd {G : Gh} {H : Hp} {p : Addr} (o : HO) (hp : H p = none) : GrowZ G H G (L2.upd H p o) :=
  ⟨fun _ h => h, fun _ h => h, fun a u e _ _ => by rw [upd_ne (ne_of_none e hp)]; exact e⟩
theorem SOk.upd {Γ : Mo} {G : Gh} {H : Hp} {s : Option (Int × Int)} (k : SOk Γ G H s) {p : Addr} (o : HO) (hp : H p = none) : SOk Γ G (L2.upd H p o) s := by
  have sm : ∀ b u, H b = some u → L2.upd H p o b = some u := fun b u e => by rw [upd_ne (ne_of_none e hp)]; exact e
  refine ⟨?_, k.tabs.ext sm, fun f c q e => sm _ _ (k.thk f c q e), fun a ns e2 => (k.scr a ns e2).to (fun _ z => z) (fun u h _ => sm _ _ h), fun a z => ?_, fun q hq => (k.held q hq).growZ (.upd o hp)⟩
  · cases s with
    | none => exact k.cup
    | some q =>
      obtain ⟨x, y⟩ := q
      obtain ⟨a, e, e1, n⟩ := k.cup
      exact ⟨a, e, sm _ _ e1, n⟩
  · obtain ⟨xs, e⟩ := k.zl a z
    exact ⟨xs, sm _ _ e⟩
mutual
theorem Rp.mut {Γ : Mo} {G : Gh} {H : Hp} {p : Addr} {xs ys : List V} (e : H p = some (.lst xs)) (nz : ¬ G.Z p) : ∀ {v : V} {d : D}, Rp Γ G H v d → Rp Γ G (L2.upd H p (.lst ys)) v d
  | _, _, .non => .non
  | _, _, .bl b => .bl b
  | _, _, .int i => .int i
  | _, _, .str x => .str x
  | _, _, .lst z h r => .lst z (by rw [upd_ne (fun q => nz (by rw [← q]; exact z))]; exact h) (Rps.mut e nz r)
  | _, _, .tup h r => .tup (by
      rcases h with (h | ⟨o, h⟩) | h
      · exact .inl (.inl (by rw [upd_ne (fun q => by rw [q, e] at h; cases h)]; exact h))
      · exact .inl (.inr ⟨o, by rw [upd_ne (fun q => by rw [q, e] at h; cases h)]; exact h⟩)
      · exact .inr h) (Rps.mut e nz r)
  | _, _, .cup h => .cup h
  | _, _, .fn i => .fn i
  | _, _, .thk h => .thk h
  | _, _, .exc h => .exc h
  | _, _, .scr h => .scr h
theorem Rps.mut {Γ : Mo} {G : Gh} {H : Hp} {p : Addr} {xs ys : List V} (e : H p = some (.lst xs)) (nz : ¬ G.Z p) : ∀ {vs : List V} {ds : List D}, Rps Γ G H vs ds → Rps Γ G (L2.upd H p (.lst ys)) vs ds
  | _, _, .nil => .nil
  | _, _, .cons h r => .cons (Rp.mut e nz h) (Rps.mut e nz r)
end
theorem SOk.mut {Γ : Mo} {G : Gh} {H : Hp} {s : Option (Int × Int)} (k : SOk Γ G H s) {p : Addr} {xs ys : List V} (e : H p = some (.lst xs)) (nz : ¬ G.Z p) (nc : G.cup ≠ some p) : SOk Γ G (L2.upd H p (.lst ys)) s := by
  have sm : ∀ b u, H b = some u → (∀ zs, u ≠ .lst zs) → L2.upd H p (.lst ys) b = some u := fun b u h n => by
    rw [upd_ne (fun z => by subst z; rw [e] at h; cases h; exact n _ rfl)]; exact h
  refine ⟨?_, fun q hq => ?_, fun f c q h => sm _ _ (k.thk f c q h) (fun _ z => nomatch z), fun a ns h => (k.scr a ns h).to (fun _ z => z) (fun u h2 h3 => ?_), fun a z => ?_, fun q hq => (k.held q hq).mut e nz⟩
  · cases s with
    | none => exact k.cup
    | some q =>
      obtain ⟨x, y⟩ := q
      obtain ⟨a, e1, e2, n⟩ := k.cup
      exact ⟨a, e1, by rw [upd_ne (fun z => nc (by rw [e1, z]))]; exact e2, n⟩
  · obtain ⟨ps, h1, h2, h3⟩ := k.tabs q hq
    refine ⟨ps, sm _ _ h1 (fun _ z => nomatch z), h2, fun pos cv hc => ?_⟩
    obtain ⟨c, e1, e2⟩ := h3 pos cv hc
    exact ⟨c, e1, sm _ _ e2 (fun _ z => nomatch z)⟩
  · rcases h3 with h3 | h3
    · rw [upd_ne (fun z => nz (by rw [← z]; exact h3))]; exact h2
    · exact sm _ _ h2 h3
  · obtain ⟨zs, h⟩ := k.zl a z
    exact ⟨zs, by rw [upd_ne (fun q => nz (by rw [← q]; exact z))]; exact h⟩
mutual
theorem Rp.mutD {Γ : Mo} {G : Gh} {H : Hp} {p : Addr} {xs : List (List L2.Key × V)} {o : HO} (e : H p = some (.dT xs)) : ∀ {v : V} {d : D}, Rp Γ G H v d → Rp Γ G (L2.upd H p o) v d
  | _, _, .non => .non
  | _, _, .bl b => .bl b
  | _, _, .int i => .int i
  | _, _, .str x => .str x
  | _, _, .lst z h r => .lst z (by rw [upd_ne (fun q => by rw [q, e] at h; cases h)]; exact h) (Rps.mutD e r)
  | _, _, .tup h r => .tup (by
      rcases h with (h | ⟨o, h⟩) | h
      · exact .inl (.inl (by rw [upd_ne (fun q => by rw [q, e] at h; cases h)]; exact h))
      · exact .inl (.inr ⟨o, by rw [upd_ne (fun q => by rw [q, e] at h; cases h)]; exact h⟩)
      · exact .inr h) (Rps.mutD e r)
  | _, _, .cup h => .cup h
  | _, _, .fn i => .fn i
  | _, _, .thk h => .thk h
  | _, _, .exc h => .exc h
  | _, _, .scr h => .scr h
theorem Rps.mutD {Γ : Mo} {G : Gh} {H : Hp} {p : Addr} {xs : List (List L2.Key × V)} {o : HO} (e : H p = some (.dT xs)) : ∀ {vs : List V} {ds : List D}, Rps Γ G H vs ds → Rps Γ G (L2.upd H p o) vs ds
  | _, _, .nil => .nil
  | _, _, .cons h r => .cons (Rp.mutD e h) (Rps.mutD e r)
end
theorem SOk.mutD {Γ : Mo} {G : Gh} {H : Hp} {s : Option (Int × Int)} (k : SOk Γ G H s) {p : Addr} {xs : List (List L2.Key × V)} {o : HO} (e : H p = some (.dT xs)) : SOk Γ G (L2.upd H p o) s := by
  have sm : ∀ b u, H b = some u → (∀ zs, u ≠ .dT zs) → L2.upd H p o b = some u := fun b u h n => by
    rw [upd_ne (fun z => by subst z; rw [e] at h; cases h; exact n _ rfl)]; exact h
  refine ⟨?_, fun q hq => ?_, fun f c q h => sm _ _ (k.thk f c q h) (fun _ z => nomatch z), fun a ns h => ?_, fun a z => ?_, fun q hq => (k.held q hq).mutD e⟩
  · cases s with
    | none => exact k.cup
    | some q =>
      obtain ⟨x, y⟩ := q
      obtain ⟨a, e1, e2, n⟩ := k.cup
      exact ⟨a, e1, sm _ _ e2 (fun _ z => nomatch z), n⟩
  · obtain ⟨ps, h1, h2, h3⟩ := k.tabs q hq
    refine ⟨ps, sm _ _ h1 (fun _ z => nomatch z), h2, fun pos cv hc => ?_⟩
    obtain ⟨c, e1, e2⟩ := h3 pos cv hc
    exact ⟨c, e1, sm _ _ e2 (fun _ z => nomatch z)⟩
  · rcases k.scr a ns h with ⟨o2, h2⟩ | ⟨z, h2⟩ | h2
    · exact .inl ⟨o2, sm _ _ h2 (fun _ z => nomatch z)⟩
    · exact .inr (.inl ⟨z, sm _ _ h2 (fun _ z => nomatch z)⟩)
    · exact .inr (.inr h2)
  · obtain ⟨zs, h⟩ := k.zl a z
    exact ⟨zs, sm _ _ h (fun _ z => nomatch z)⟩
theorem GrowZ.mutD {G : Gh} {H : Hp} {p : Addr} {xs ys : List (List L2.Key × V)} (hx : H p = some (.dT xs)) : GrowZ G H G (L2.upd H p (.dT ys)) :=
  ⟨fun _ h => h, fun _ h => h, fun a o h t c => by
    rw [upd_ne (fun q => by
      subst q
      rw [hx] at h; cases h; cases t)]; exact h⟩
inductive Rks (Γ : Mo) (G : Gh) (H : Hp) : List (List L2.Key × V) → List (List L2.Key × D) → Prop
  | nil : Rks Γ G H [] []
  | cons {k : List L2.Key} {v : V} {vs : List (List L2.Key × V)} {d : D} {ds : List (List L2.Key × D)} : Rp Γ G H v d → Rks Γ G H vs ds → Rks Γ G H ((k, v) :: vs) ((k, d) :: ds)
theorem Rks.imp {Γ Γ' : Mo} {G G' : Gh} {H H' : Hp} (h : ∀ v d, Rp Γ G H v d → Rp Γ' G' H' v d) : ∀ {vs : List (List L2.Key × V)} {ds : List (List L2.Key × D)}, Rks Γ G H vs ds → Rks Γ' G' H' vs ds
  | _, _, .nil => .nil
  | _, _, .cons r rs => .cons (h _ _ r) (Rks.imp h rs)
theorem Rks.impM {Γ Γ' : Mo} {G G' : Gh} {H H' : Hp} {p : D → Bool} (h : ∀ v d, p d = true → Rp Γ G H v d → Rp Γ' G' H' v d) : ∀ {vs : List (List L2.Key × V)} {ds : List (List L2.Key × D)}, ds.all (fun z => p z.2) = true → Rks Γ G H vs ds → Rks Γ' G' H' vs ds
  | _, _, _, .nil => .nil
  | _, _, q, .cons r rs => .cons (h _ _ (by simp at q; exact q.1) r) (Rks.impM h (by simp at q ⊢; exact q.2) rs)
theorem Rks.len {Γ : Mo} {G : Gh} {H : Hp} : ∀ {vs : List (List L2.Key × V)} {ds : List (List L2.Key × D)}, Rks Γ G H vs ds → vs.length = ds.length
  | _, _, .nil => rfl
  | _, _, .cons _ r => congrArg (· + 1) r.len
def dVal (kvs : List (List L2.Key × D)) (k : List L2.Key) : Option D := match kvs with
  | [] => none
  | p :: r => if p.1 = k then some p.2 else dVal r k
def dPut (kvs : List (List L2.Key × D)) (k : List L2.Key) (d : D) : List (List L2.Key × D) := match kvs with
  | [] => [(k, d)]
  | p :: r => if p.1 = k then (k, d) :: r else p :: dPut r k d
theorem Rks.val {Γ : Mo} {G : Gh} {H : Hp} (k : List L2.Key) : ∀ {vs : List (List L2.Key × V)} {ds : List (List L2.Key × D)}, Rks Γ G H vs ds → (dVal ds k = none → L2.valV vs k = none) ∧ ∀ d, dVal ds k = some d → ∃ v, L2.valV vs k = some v ∧ Rp Γ G H v d
  | _, _, .nil => ⟨fun _ => rfl, fun _ e => nomatch e⟩
  | _, _, .cons (k := j) (v := v) (d := d) h r => by
    obtain ⟨ih1, ih2⟩ := Rks.val k r
    unfold dVal
    by_cases e : j = k
    · rw [L2.valV_pos (p := (j, v)) e, if_pos e]
      exact ⟨fun z => (nomatch z), fun d' z => by cases z; exact ⟨v, rfl, h⟩⟩
    · rw [L2.valV_neg (p := (j, v)) e, if_neg e]
      exact ⟨ih1, ih2⟩
theorem valV_none_nm {vs : List (List L2.Key × V)} {k : List L2.Key} (h : ∀ p ∈ vs, p.1 ≠ k) : (vs.map fun kv => if kv.1 = k then (kv.1, v) else kv) = vs := by
  induction vs with
  | nil => rfl
  | cons p r ih =>
    rw [List.map_cons, if_neg (h p List.mem_cons_self), ih fun q hq => h q (List.mem_cons_of_mem _ hq)]
theorem Rks.keys {Γ : Mo} {G : Gh} {H : Hp} : ∀ {vs : List (List L2.Key × V)} {ds : List (List L2.Key × D)}, Rks Γ G H vs ds → vs.map (·.1) = ds.map (·.1)
  | _, _, .nil => rfl
  | _, _, .cons _ r => by rw [List.map_cons, List.map_cons, r.keys]
theorem dPut_keys (k : List L2.Key) (d : D) : ∀ ds : List (List L2.Key × D), (k ∈ ds.map (·.1) ∧ (dPut ds k d).map (·.1) = ds.map (·.1)) ∨ (¬ k ∈ ds.map (·.1) ∧ (dPut ds k d).map (·.1) = ds.map (·.1) ++ [k])
  | [] => .inr ⟨by simp, rfl⟩
  | p :: r => by
    unfold dPut
    by_cases e : p.1 = k
    · rw [if_pos e]
      exact .inl ⟨by simp [e], by simp [e]⟩
    · rw [if_neg e, List.map_cons]
      rcases dPut_keys k d r with ⟨h, q⟩ | ⟨h, q⟩
      · exact .inl ⟨List.mem_cons_of_mem _ h, by rw [List.map_cons, q]⟩
      · exact .inr ⟨fun z => by rcases List.mem_cons.mp z with z | z; exact e z.symm; exact h z, by rw [List.map_cons, q, List.cons_append]⟩
theorem Rks.put {Γ : Mo} {G : Gh} {H : Hp} {v : V} {d : D} (h : Rp Γ G H v d) (k : List L2.Key) {vs : List (List L2.Key × V)} {ds : List (List L2.Key × D)} (nd : (ds.map (·.1)).Nodup) (r : Rks Γ G H vs ds) : Rks Γ G H (L2.putK vs k v) (dPut ds k d) := by
  induction r with
  | nil => exact .cons h .nil
  | @cons j u vs d0 ds h0 r ih =>
    rw [List.map_cons] at nd
    obtain ⟨n1, n2⟩ := List.nodup_cons.mp nd
    have ih := ih n2
    unfold L2.putK at ih ⊢
    unfold dPut
    by_cases e : j = k
    · have a : (((j, u) :: vs).any fun kv => decide (kv.1 = k)) = true := by simp [e]
      rw [if_pos a, List.map_cons, if_pos e, if_pos e]
      have hn : ∀ p ∈ vs, p.1 ≠ k := fun p hp z => n1 (by
        have : p.1 ∈ vs.map (·.1) := List.mem_map_of_mem hp
        rw [r.keys] at this
        rw [e, ← z]; exact this)
      rw [valV_none_nm hn]
      subst e
      exact Rks.cons h r
    · rw [if_neg e]
      have a : (((j, u) :: vs).any fun kv => decide (kv.1 = k)) = vs.any fun kv => decide (kv.1 = k) := by simp [e]
      rw [a]
      by_cases b : (vs.any fun kv => decide (kv.1 = k)) = true
      · rw [if_pos b] at ih ⊢
        rw [List.map_cons, if_neg e]
        exact .cons h0 ih
      · rw [if_neg b] at ih ⊢
        exact .cons h0 ih
theorem dPut_nd (k : List L2.Key) (d : D) (ds : List (List L2.Key × D)) (h : (ds.map (·.1)).Nodup) : ((dPut ds k d).map (·.1)).Nodup := by
  rcases dPut_keys k d ds with ⟨_, q⟩ | ⟨e, q⟩
  · rw [q]; exact h
  · rw [q]
    refine List.nodup_append.mpr ⟨h, by simp, fun a ha b hb => ?_⟩
    rw [List.mem_singleton] at hb
    subst hb
    exact fun z => e (z ▸ ha)
theorem Grow.mut {G G' : Gh} {H H' : Hp} (g : Grow G H G' H') {p : Addr} (o : HO) (hp : H p = none) : Grow G H G' (L2.upd H' p o) :=
  ⟨g.z, g.nz, g.cup, g.ncup, fun a u e hc ht => by rw [upd_ne (ne_of_none e hp)]; exact g.keep a u e hc ht, fun a e => by
    by_cases h : a = p
    · rw [h]; exact hp
    · rw [upd_ne h] at e; exact g.there a e⟩
theorem SOk.nup {Γ : Mo} {G : Gh} {H : Hp} {s : Option (Int × Int)} (k : SOk Γ G H s) {p : Addr} (hp : H p = none) : G.cup ≠ some p := fun z => by
  cases s with
  | none =>
    have e2 : G.cup = none := k.cup
    rw [e2] at z; cases z
  | some q =>
    obtain ⟨x, y⟩ := q
    obtain ⟨b, e2, e3, _⟩ := k.cup
    rw [e2] at z; cases z
    rw [hp] at e3; cases e3
mutual
def D.flat : D → Bool
  | .lst _ => false
  | .tup l => D.flats l
  | _ => true
def D.flats : List D → Bool
  | [] => true
  | d :: ds => d.flat && D.flats ds
end
mutual
theorem Rp.other {Γ : Mo} {G G' : Gh} {H : Hp} (hc : ∀ a, G.cup = some a → G'.cup = some a) : ∀ {v : V} {d : D}, d.flat = true → Rp Γ G H v d → Rp Γ G' H v d
  | _, _, _, .non => .non
  | _, _, _, .bl b => .bl b
  | _, _, _, .int i => .int i
  | _, _, _, .str x => .str x
  | _, _, f, .lst _ _ _ => by simp [D.flat] at f
  | _, _, f, .tup h r => .tup h (Rps.other hc (by simpa [D.flat] using f) r)
  | _, _, _, .cup h => .cup (hc _ h)
  | _, _, _, .fn i => .fn i
  | _, _, _, .thk h => .thk h
  | _, _, _, .exc h => .exc h
  | _, _, _, .scr h => .scr h
theorem Rps.other {Γ : Mo} {G G' : Gh} {H : Hp} (hc : ∀ a, G.cup = some a → G'.cup = some a) : ∀ {vs : List V} {ds : List D}, D.flats ds = true → Rps Γ G H vs ds → Rps Γ G' H vs ds
  | _, _, _, .nil => .nil
  | _, _, f, .cons h r => by
    simp [D.flats] at f
    exact .cons (Rp.other hc f.1 h) (Rps.other hc f.2 r)
end
mutual
def D.py : D → Option PyData
  | .non => some .none
  | .bl b => some (.bool b)
  | .int i => some (.int i)
  | .str x => some (.str x)
  | .lst l => (D.pys l).map .list
  | .tup l => (D.pys l).map .tuple
  | _ => none
def D.pys : List D → Option (List PyData)
  | [] => some []
  | d :: ds => match d.py, D.pys ds with
    | some p, some ps => some (p :: ps)
    | _, _ => none
end
mutual
theorem Rp.dp {Γ : Mo} {G : Gh} {H : Hp} : ∀ {v : V} {d : D} {p : PyData}, Rp Γ G H v d → d.py = some p → Dp Γ.K H v p
  | _, _, _, .non, e => by cases e; exact .non
  | _, _, _, .bl b, e => by cases e; exact .bl b
  | _, _, _, .int i, e => by cases e; exact .int i
  | _, _, _, .str x, e => by cases e; exact .str x
  | _, .lst l, p, .lst _ h r, e => by
    have e : (D.pys l).map PyData.list = some p := e
    cases q : D.pys l with
    | none => rw [q] at e; cases e
    | some ps => rw [q] at e; cases e; exact .lst (SqL.of h) (Rps.dp r q)
  | _, .tup l, p, .tup h r, e => by
    have e : (D.pys l).map PyData.tuple = some p := e
    cases q : D.pys l with
    | none => rw [q] at e; cases e
    | some ps => rw [q] at e; cases e; exact .tup h (Rps.dp r q)
  | _, _, _, .cup _, e => by cases e
  | _, _, _, .fn _, e => by cases e
  | _, _, _, .thk _, e => by cases e
  | _, _, _, .exc _, e => by cases e
  | _, _, _, .scr _, e => by cases e
theorem Rps.dp {Γ : Mo} {G : Gh} {H : Hp} : ∀ {vs : List V} {ds : List D} {ps : List PyData}, Rps Γ G H vs ds → D.pys ds = some ps → DpAll Γ.K H vs ps
  | _, _, _, .nil, e => by cases e; exact .nil
  | _, d :: ds, ps, .cons h r, e => by
    have e : (match d.py, D.pys ds with | some p, some ps => some (p :: ps) | _, _ => none) = some ps := e
    cases q : d.py with
    | none => rw [q] at e; cases e
    | some p =>
      cases q2 : D.pys ds with
      | none => rw [q, q2] at e; cases e
      | some ps2 => rw [q, q2] at e; cases e; exact .cons (Rp.dp h q) (Rps.dp r q2)
end
def D.eq (a b : D) : Option Bool := match a.py, b.py with
  | some p, some q => if SeqAt.shaped p && SeqAt.shaped q then some (PyData.eqv p q) else none
  | _, _ => none
end Co
set_option Elab.async false
set_option linter.all false
set_option maxRecDepth 100000
set_option maxHeartbeats 4000000
namespace Co
open PySem PySem.Spec PyProof.Rows L2
inductive Bi where
  | len | abs | max2 | min2 | int | list | tuple | all | any | sum | gcd | srt | stri
  deriving DecidableEq
mutual
inductive E where
  | v (i : Nat) (p : Pos)
  | int (n : Int) (k : Nat) (p : Pos)
  | bl (b : Bool) (k : Nat) (p : Pos)
  | non (k : Nat) (p : Pos)
  | str (x : Str) (k : Nat) (p : Pos)
  | gl (g : Nat) (d : D) (p : Pos)
  | bin (o : Operator) (a b : E) (p : Pos)
  | neg (a : E) (p : Pos)
  | not (a : E) (p : Pos)
  | cmp (o : CmpOp) (a b : E) (p : Pos)
  | cmp2 (o o2 : CmpOp) (a b c : E) (p : Pos)
  | bop (o : BoolOp) (es : Es) (p : Pos)
  | ife (c a b : E) (p : Pos)
  | tup (es : Es) (k : Nat) (p : Pos)
  | lst (es : Es) (p : Pos)
  | ix (a i : E) (p : Pos)
  | sl (a : E) (lo hi : Oe) (p2 p : Pos)
  | rev (a : E) (k : Nat) (p4 p3 p2 p : Pos)
  | call (g : Nat) (es : Es) (gp p : Pos)
  | callv (i : Nat) (es : Es) (gp p : Pos)
  | act (i : Nat) (gp p : Pos)
  | lam (g : Nat) (ps : Arguments) (body : E) (sc : Scope) (vis gls : List Nat) (gp lp p : Pos)
  | blt (f : Bi) (g : Nat) (es : Es) (gp p : Pos)
  | isi (g : Nat) (a : E) (t : Nat) (gp tp p : Pos)
  | lc (elt : E) (t : T) (it : I) (cs : Es) (sc : Scope) (own vis gls : List Nat) (p : Pos)
  | bor (i : Nat) (e : E)
  | ncup (a b : E) (p : Pos)
  | join (x : Str) (k : Nat) (a : E) (xp ap p : Pos)
  | dget (i : Nat) (es : Es) (k : Nat) (tp ip p : Pos)
  | dgt (i : Nat) (es : Es) (k : Nat) (tp : Pos) (e : E) (ip ap p : Pos)
inductive Es where
  | nil | cons (e : E) (es : Es)
inductive Oe where
  | no | so (e : E)
inductive I where
  | seq (e : E)
  | rg1 (g : Nat) (a : E) (gp p : Pos)
  | rg2 (g : Nat) (a b : E) (gp p : Pos)
  | rg3 (g : Nat) (a b c : E) (gp p : Pos)
  | en (g : Nat) (a : E) (gp p : Pos)
  | zp (g : Nat) (a b : E) (gp p : Pos)
inductive T where
  | nm (i : Nat) (p : Pos)
  | tp (ts : Ts) (k : Nat) (p : Pos)
inductive Ts where
  | nil | cons (t : T) (ts : Ts)
end
mutual
inductive S where
  | asg (t : T) (e : E) (p : Pos)
  | asgO (i : Nat) (ip : Pos) (e : E) (p : Pos)
  | par (oi oj : Bool) (i j : Nat) (ip jp tp : Pos) (k : Nat) (a b : E) (k2 : Nat) (p2 p : Pos)
  | par3 (oi oj ol : Bool) (i j l : Nat) (ip jp lp tp : Pos) (k : Nat) (a b c : E) (k2 : Nat) (p2 p : Pos)
  | dnew (i : Nat) (ip p2 p : Pos)
  | dnew1 (i : Nat) (ip : Pos) (es : Es) (k : Nat) (tp : Pos) (e : E) (p2 p : Pos)
  | dput (i : Nat) (ip : Pos) (es : Es) (k : Nat) (tp sp : Pos) (e : E) (p : Pos)
  | setO (i : Nat) (ip : Pos) (x : E) (sp : Pos) (e : E) (p : Pos)
  | setC (i : Nat) (ip : Pos) (x : E) (sp : Pos) (e : E) (p : Pos)
  | app (i : Nat) (ip ap cp : Pos) (e : E) (p : Pos)
  | pop (i : Nat) (ip ap cp p : Pos)
  | expr (e : E) (p : Pos)
  | ret (e : E) (p : Pos)
  | retN (p : Pos)
  | iff (c : E) (a b : Ss) (p : Pos)
  | whl (c : E) (b : Ss) (p : Pos)
  | fr (t : T) (it : I) (b : Ss) (p : Pos)
  | brk (p : Pos)
  | cnt (p : Pos)
  | pas (p : Pos)
  | rai (g : Nat) (x : Str) (k : Nat) (gp sp cp p : Pos)
  | fz (i : Nat)
  | tre (e : E) (ep : Pos) (g : Nat) (i : Nat) (gp hp : Pos) (b : Ss) (p : Pos)
inductive Ss where
  | nil | cons (s : S) (ss : Ss)
end
section
variable (N GN : List Str)
def nm (i : Nat) : Str := N.getD i default
mutual
def back : E → Expr
  | .v i p => .Name (nm N i) p
  | .int n k p => .Constant (.int n) k p
  | .bl b k p => .Constant (.bool b) k p
  | .non k p => .Constant .none k p
  | .str x k p => .Constant (.str x) k p
  | .gl g _ p => .Name (nm GN g) p
  | .bin o a b p => .BinOp (back a) o (back b) p
  | .neg a p => .UnaryOp .USub (back a) p
  | .not a p => .UnaryOp .Not (back a) p
  | .cmp o a b p => .Compare (back a) [o] [back b] p
  | .cmp2 o o2 a b c p => .Compare (back a) [o, o2] [back b, back c] p
  | .bop o es p => .BoolOp o (backs es) p
  | .ife c a b p => .IfExp (back c) (back a) (back b) p
  | .tup es k p => .Tuple (backs es) k p
  | .lst es p => .List (backs es) p
  | .ix a i p => .Subscript (back a) (back i) p
  | .sl a lo hi p2 p => .Subscript (back a) (.Slice (backO lo) (backO hi) none p2) p
  | .rev a k p4 p3 p2 p => .Subscript (back a) (.Slice none none (some (.UnaryOp .USub (.Constant (.int 1) k p4) p3)) p2) p
  | .call g es gp p => .Call (.Name (nm GN g) gp) (backs es) [] p
  | .callv i es gp p => .Call (.Name (nm N i) gp) (backs es) [] p
  | .act i gp p => .Call (.Name (nm N i) gp) [] [] p
  | .lam g ps body sc _ _ gp lp p => .Call (.Name (nm GN g) gp) [.Lambda ps (back body) sc lp] [] p
  | .blt _ g es gp p => .Call (.Name (nm GN g) gp) (backs es) [] p
  | .isi g a t gp tp p => .Call (.Name (nm GN g) gp) [back a, .Name (nm GN t) tp] [] p
  | .lc elt t it cs sc _ _ _ p => .ListComp (back elt) [⟨backT t, backI it, backs cs, 0⟩] sc p
  | .bor _ e => back e
  | .ncup a b p => .List [back a, back b] p
  | .join x k a xp ap p => .Call (.Attribute (.Constant (.str x) k xp) (Str.ofString "join") ap) [back a] [] p
  | .dget i es k tp ip p => .Subscript (.Name (nm N i) ip) (.Tuple (backs es) k tp) p
  | .dgt i es k tp e ip ap p => .Call (.Attribute (.Name (nm N i) ip) (Str.ofString "get") ap) [.Tuple (backs es) k tp, back e] [] p
def backs : Es → List Expr
  | .nil => []
  | .cons e es => back e :: backs es
def backO : Oe → Option Expr
  | .no => none
  | .so e => some (back e)
def backI : I → Expr
  | .seq e => back e
  | .rg1 g a gp p => .Call (.Name (nm GN g) gp) [back a] [] p
  | .rg2 g a b gp p => .Call (.Name (nm GN g) gp) [back a, back b] [] p
  | .rg3 g a b c gp p => .Call (.Name (nm GN g) gp) [back a, back b, back c] [] p
  | .en g a gp p => .Call (.Name (nm GN g) gp) [back a] [] p
  | .zp g a b gp p => .Call (.Name (nm GN g) gp) [back a, back b] [] p
def backT : T → Expr
  | .nm i p => .Name (nm N i) p
  | .tp ts k p => .Tuple (backTs ts) k p
def backTs : Ts → List Expr
  | .nil => []
  | .cons t ts => backT t :: backTs ts
end
mutual
def backS : S → List Stmt
  | .asg t e p => [.Assign [backT N GN t] (back N GN e) p]
  | .asgO i ip e p => [.Assign [.Name (nm N i) ip] (back N GN e) p]
  | .par _ _ i j ip jp tp k a b k2 p2 p => [.Assign [.Tuple [.Name (nm N i) ip, .Name (nm N j) jp] k tp] (.Tuple [back N GN a, back N GN b] k2 p2) p]
  | .par3 _ _ _ i j l ip jp lp tp k a b c k2 p2 p => [.Assign [.Tuple [.Name (nm N i) ip, .Name (nm N j) jp, .Name (nm N l) lp] k tp] (.Tuple [back N GN a, back N GN b, back N GN c] k2 p2) p]
  | .dnew i ip p2 p => [.Assign [.Name (nm N i) ip] (.Dict [] [] p2) p]
  | .dnew1 i ip es k tp e p2 p => [.Assign [.Name (nm N i) ip] (.Dict [some (.Tuple (backs N GN es) k tp)] [back N GN e] p2) p]
  | .dput i ip es k tp sp e p => [.Assign [.Subscript (.Name (nm N i) ip) (.Tuple (backs N GN es) k tp) sp] (back N GN e) p]
  | .setO i ip x sp e p => [.Assign [.Subscript (.Name (nm N i) ip) (back N GN x) sp] (back N GN e) p]
  | .setC i ip x sp e p => [.Assign [.Subscript (.Name (nm N i) ip) (back N GN x) sp] (back N GN e) p]
  | .app i ip ap cp e p => [.Expr (.Call (.Attribute (.Name (nm N i) ip) (Str.ofString "append") ap) [back N GN e] [] cp) p]
  | .pop i ip ap cp p => [.Expr (.Call (.Attribute (.Name (nm N i) ip) (Str.ofString "pop") ap) [] [] cp) p]
  | .expr e p => [.Expr (back N GN e) p]
  | .ret e p => [.Return (some (back N GN e)) p]
  | .retN p => [.Return none p]
  | .iff c a b p => [.If (back N GN c) (backSs a) (backSs b) p]
  | .whl c b p => [.While (back N GN c) (backSs b) [] p]
  | .fr t it b p => [.For (backT N GN t) (backI N GN it) (backSs b) [] p]
  | .brk p => [.Break p]
  | .cnt p => [.Continue p]
  | .pas p => [.Pass p]
  | .rai g x k gp sp cp p => [.Raise (some (.Call (.Name (nm GN g) gp) [.Constant (.str x) k sp] [] cp)) none p]
  | .fz _ => []
  | .tre e ep g i gp hp b p => [.Try [.Expr (back N GN e) ep] [.ExceptHandler (some (.Name (nm GN g) gp)) (some (nm N i)) (backSs b) hp] [] [] p]
def backSs : Ss → List Stmt
  | .nil => []
  | .cons s ss => backS s ++ backSs ss
end
end
abbrev St2 := Option (Int × Int)
inductive Res (α : Type) where
  | ok (a : α) | ex (g : Nat) (n : Int)
abbrev M (α : Type) := St2 → Option (Res α × St2)
def M.pure {α : Type} (a : α) : M α := fun s => some (.ok a, s)
def M.bind {α β : Type} (m : M α) (f : α → M β) : M β := fun s => match m s with
  | some (.ok a, s') => f a s'
  | some (.ex g n, s') => some (.ex g n, s')
  | none => none
def M.no {α : Type} : M α := fun _ => none
def M.of {α : Type} : Option α → M α
  | some a => M.pure a
  | none => M.no
def M.raise {α : Type} (g : Nat) (n : Int) : M α := fun s => some (.ex g n, s)
def M.calm {α : Type} (m : M α) : M α := fun s => match m s with
  | some (.ok a, s') => some (.ok a, s')
  | _ => none
inductive Sl where
  | un | val (d : D) | own (ds : List D) | dic (kvs : List (List L2.Key × D))
def Sl.mine : Sl → Bool
  | .own _ => true
  | .dic _ => true
  | _ => false
abbrev En := List Sl
def mulOk (i j : Int) : Bool := decide (i.natAbs < 2 ^ 64) || decide (j.natAbs < 2 ^ 64) || decide (i.natAbs.log2 + j.natAbs.log2 < 1000000)
def divOk (j : Int) : Bool := decide (j ≠ 0) && decide (j.natAbs.log2 < 9000)
def sizeOk (n : Nat) : Bool := decide (n ≤ 16777216)
def int64 (k : Int) : Bool := decide (-(2 ^ 62) ≤ k) && decide (k < 2 ^ 62)
def binD : Operator → D → D → Option D
  | .Add, .int i, .int j => some (.int (i + j))
  | .Add, .str x, .str y => if sizeOk (x.length + y.length) then some (.str (x ++ y)) else none
  | .Add, .lst x, .lst y => if sizeOk (x.length + y.length) then some (.lst (x ++ y)) else none
  | .Add, .tup x, .tup y => if sizeOk (x.length + y.length) then some (.tup (x ++ y)) else none
  | .Sub, .int i, .int j => some (.int (i - j))
  | .Mult, .int i, .int j => if mulOk i j then some (.int (i * j)) else none
  | .Mult, .lst x, .int k => if int64 k && sizeOk (x.length * k.toNat) then some (.lst (List.replicate k.toNat x).flatten) else none
  | .Mult, .tup x, .int k => if !x.isEmpty && (decide (2 ≤ k) && (decide (k ≤ 1000) && decide (x.length ≤ 1000))) then some (.tup (List.replicate k.toNat x).flatten) else none
  | .FloorDiv, .int i, .int j => if divOk j then some (.int (i.fdiv j)) else none
  | .Mod, .int i, .int j => if j ≠ 0 then some (.int (i.fmod j)) else none
  | .Pow, .int i, .int j => if 0 ≤ j ∧ j ≤ 1000000 ∧ i.natAbs < 2 ^ 64 then some (.int (i ^ j.toNat)) else none
  | _, _, _ => none
def D.isInt : D → Bool
  | .int _ => true
  | _ => false
def D.scl : D → Bool
  | .int _ => true
  | .non => true
  | .bl _ => true
  | .str _ => true
  | _ => false
def D.sv : D → V
  | .int i => .int i
  | .bl b => .bl b
  | .str x => .str x
  | _ => .non
def inL (d : D) (l : List D) : Option Bool := match d.py, D.pys l with
  | some p, some ps => if SeqAt.shaped p && SeqAt.shaped (.list ps) then some (ps.any fun z => PyData.eqv z p) else none
  | _, _ => none
def cmpD : CmpOp → D → D → Option Bool
  | .Eq, a, b => D.eq a b
  | .NotEq, a, b => (D.eq a b).map (!·)
  | .Lt, .int i, .int j => some (decide (i < j))
  | .LtE, .int i, .int j => some (decide (i ≤ j))
  | .Gt, .int i, .int j => some (decide (j < i))
  | .GtE, .int i, .int j => some (decide (j ≤ i))
  | .Is, d, .non => some (match d with | .non => true | _ => false)
  | .IsNot, d, .non => some (match d with | .non => false | _ => true)
  | .In, d, .lst l => inL d l
  | .NotIn, d, .lst l => (inL d l).map (!·)
  | .In, d, .tup l => if d.scl && l.all D.scl then some (inV d.sv (l.map D.sv)) else none
  | .NotIn, d, .tup l => if d.scl && l.all D.scl then some (!inV d.sv (l.map D.sv)) else none
  | _, _, _ => none
def D.ints : List D → Option (List Int)
  | [] => some []
  | .int i :: ds => (D.ints ds).map (i :: ·)
  | _ => none
def D.bools : List D → Option (List Bool)
  | [] => some []
  | .bl b :: ds => (D.bools ds).map (b :: ·)
  | _ => none
def D.strs : List D → Option (List Str)
  | [] => some []
  | .str b :: ds => (D.strs ds).map (b :: ·)
  | _ => none
def maxI : List Int → Option Int
  | [] => none
  | a :: l => match maxI l with
    | none => some a
    | some m => some (if m < a then a else m)
def minI : List Int → Option Int
  | [] => none
  | a :: l => match minI l with
    | none => some a
    | some m => some (if a < m then a else m)
def bltD : Bi → List D → Option D
  | .len, [.lst l] => some (.int l.length)
  | .len, [.tup l] => some (.int l.length)
  | .len, [.str x] => if sizeOk x.length then some (.int x.length) else none
  | .abs, [.int i] => some (.int (if i < 0 then -i else i))
  | .max2, [.int i, .int j] => some (.int (if j > i then j else i))
  | .min2, [.int i, .int j] => some (.int (if j < i then j else i))
  | .max2, [.lst l] => ((D.ints l).bind maxI).map .int
  | .min2, [.lst l] => ((D.ints l).bind minI).map .int
  | .srt, [.lst l] => (D.ints l).map fun ns => .lst ((PySem.W.sortI ns).map .int)
  | .stri, [.int i] => if i.natAbs.log2 < 1920 then some (.str (toString i)) else none
  | .stri, [.str x] => some (.str x)
  | .int, [.int i] => some (.int i)
  | .int, [.bl b] => some (.int (if b then 1 else 0))
  | .list, [.lst l] => some (.lst l)
  | .list, [.tup l] => some (.lst l)
  | .tuple, [.lst l] => some (.tup l)
  | .tuple, [.tup l] => some (.tup l)
  | .all, [.lst l] => (D.bools l).map fun bs => .bl (bs.all id)
  | .any, [.lst l] => (D.bools l).map fun bs => .bl (bs.any id)
  | .sum, [.lst l] => (D.ints l).map fun ns => .int ns.sum
  | .sum, [.tup l] => (D.ints l).map fun ns => .int ns.sum
  | .gcd, [.int i, .int j] => some (.int (Nat.gcd i.natAbs j.natAbs : Nat))
  | _, _ => none
def bltM (f : Bi) (l : List D) : M D := match f, l with
  | .list, [.scr ns] => fun s => match s with
    | none => some (.ok (.lst (ns.map .int)), none)
    | _ => none
  | f, l => M.of (bltD f l)
def isTy : D → String → Option Bool
  | .non, "int" => some false | .non, "bool" => some false | .non, "str" => some false | .non, "tuple" => some false | .non, "list" => some false
  | .bl _, "int" => some true | .bl _, "bool" => some true | .bl _, "str" => some false | .bl _, "tuple" => some false | .bl _, "list" => some false
  | .int _, "int" => some true | .int _, "bool" => some false | .int _, "str" => some false | .int _, "tuple" => some false | .int _, "list" => some false
  | .str _, "int" => some false | .str _, "bool" => some false | .str _, "str" => some true | .str _, "tuple" => some false | .str _, "list" => some false
  | .tup _, "int" => some false | .tup _, "bool" => some false | .tup _, "str" => some false | .tup _, "tuple" => some true | .tup _, "list" => some false
  | .lst _, "int" => some false | .lst _, "bool" => some false | .lst _, "str" => some false | .lst _, "tuple" => some false | .lst _, "list" => some true
  | _, _ => none
def ixD (d i : D) : M D := match d, i with
  | .lst l, .int k => M.of (atI l k)
  | .tup l, .int k => M.of (atI l k)
  | .cup, .int k => fun s => match s with
    | some (x, y) => if k = 0 then some (.ok (.int x), s) else if k = 1 then some (.ok (.int y), s) else none
    | none => none
  | _, _ => M.no
def cutD {α : Type} (xs : List α) (lo hi : Option Int) : List α := (xs.drop (HT.sIx xs.length 0 lo)).take (HT.sIx xs.length xs.length hi - HT.sIx xs.length 0 lo)
def slD (d : D) (lo hi : Option Int) : Option D := match d with
  | .lst l => some (.lst (cutD l lo hi))
  | .tup l => some (.tup (cutD l lo hi))
  | _ => none
def En.get (env : En) (i : Nat) : Option D := match env[i]? with
  | some (.val d) => some d
  | _ => none
def En.own (env : En) (i : Nat) : Option (List D) := match env[i]? with
  | some (.own d) => some d
  | _ => none
def En.dic (env : En) (i : Nat) : Option (List (List L2.Key × D)) := match env[i]? with
  | some (.dic d) => some d
  | _ => none
def D.keyOf : List D → Option (List L2.Key)
  | [] => some []
  | .int i :: ds => (D.keyOf ds).map (.inl i :: ·)
  | .str x :: ds => (D.keyOf ds).map (.inr x :: ·)
  | _ => none
def stF (o : Bool) (i : Nat) (d : D) (env : En) : Option En := match o, d with
  | true, .lst l => some (env.set i (.own l))
  | true, _ => none
  | false, d => some (env.set i (.val d))
def En.wipe (env : En) : List Nat → En
  | [] => env
  | v :: vs => (En.wipe env vs).set v .un
def rangeD (lo : Int) (n : Nat) : List D := (List.range n).map fun i => .int (lo + (i : Nat))
def rangeC (lo c : Int) (n : Nat) : List D := (List.range n).map fun i => .int (lo + (i : Nat) * c)
def enumD : Nat → List D → List D
  | _, [] => []
  | i, d :: ds => .tup [.int (i : Nat), d] :: enumD (i + 1) ds
def zipD : List D → List D → List D
  | a :: as, b :: bs => .tup [a, b] :: zipD as bs
  | _, _ => []
def En.vals (env : En) : En := env.map fun
  | .own _ => .un
  | .dic _ => .un
  | x => x
mutual
def D.noth : D → Bool
  | .thk => false
  | .lst l => D.noths l
  | .tup l => D.noths l
  | _ => true
def D.noths : List D → Bool
  | [] => true
  | d :: ds => d.noth && D.noths ds
end
mutual
def tgt : T → D → En → Option En
  | .nm i _, d, env => some (env.set i (.val d))
  | .tp ts _ _, .tup l, env => tgts ts l env
  | .tp _ _ _, _, _ => none
def tgts : Ts → List D → En → Option En
  | .nil, [], env => some env
  | .cons t ts, d :: ds, env => match tgt t d env with
    | some env' => tgts ts ds env'
    | none => none
  | _, _, _ => none
end
structure Cl where
  c : Nat → List D → M D
  c0 : Nat → List D → M D
  lamf : Nat → M D → M D
  th : M D
  wf : Nat
  cls : Nat → D → Option Bool
  fn : Nat → Bool
def compL (tg : D → Option En) (test : En → M D) (elt : En → M D) : List D → List D → M D
  | [], acc => M.pure (.lst acc)
  | d :: ds, acc => match tg d with
    | none => M.no
    | some env => M.bind (M.calm (test env)) fun b => match b with
      | .bl true => M.bind (M.calm (elt env)) fun x => if sizeOk (acc.length + 1) then compL tg test elt ds (acc ++ [x]) else M.no
      | .bl false => compL tg test elt ds acc
      | _ => M.no
def flatJ (d : D) : M D := if d.flat then M.pure d else M.no
def flatK (d : D) : M D := match d with
  | .lst l => if D.flats l then M.pure (.lst l) else M.no
  | d => if d.flat then M.pure d else M.no
def flatM (m : M D) : M D := M.bind m flatJ
def flatL (m : M D) : M D := M.bind m flatK
def E.isO : E → Bool
  | .bin _ _ _ _ => true
  | .lst _ _ => true
  | .sl _ _ _ _ _ => true
  | .rev _ _ _ _ _ _ => true
  | .lc _ _ _ _ _ _ _ _ _ => true
  | .blt .list _ _ _ _ => true
  | .blt .srt _ _ _ _ => true
  | .bor _ e => e.isO
  | _ => false
mutual
def ev (C : Cl) : E → En → M D
  | .v i _, env => M.of (env.get i)
  | .int n _ _, _ => M.pure (.int n)
  | .bl b _ _, _ => M.pure (.bl b)
  | .non _ _, _ => M.pure .non
  | .str x _ _, _ => M.pure (.str x)
  | .gl _ d _, _ => M.pure d
  | .bin o a b _, env => M.bind (ev C a env) fun x => M.bind (ev C b env) fun y => M.of (binD o x y)
  | .neg a _, env => M.bind (ev C a env) fun x => match x with
    | .int i => M.pure (.int (-i))
    | _ => M.no
  | .not a _, env => M.bind (ev C a env) fun x => match x with
    | .bl b => M.pure (.bl (!b))
    | _ => M.no
  | .cmp o a b _, env => M.bind (ev C a env) fun x => M.bind (ev C b env) fun y => M.of ((cmpD o x y).map .bl)
  | .cmp2 o o2 a b c _, env => M.bind (ev C a env) fun x => M.bind (ev C b env) fun y => M.bind (M.of (cmpD o x y)) fun r =>
    if r then M.bind (ev C c env) fun z => M.of ((cmpD o2 y z).map .bl) else M.pure (.bl false)
  | .bop o es _, env => evB C o es env
  | .ife c a b _, env => M.bind (ev C c env) fun x => match x with
    | .bl true => ev C a env
    | .bl false => ev C b env
    | _ => M.no
  | .tup es _ _, env => M.bind (evs C es env) fun l => if sizeOk l.length then M.pure (.tup l) else M.no
  | .lst es _, env => M.bind (evs C es env) fun l => if sizeOk l.length then M.pure (.lst l) else M.no
  | .ix a i _, env => M.bind (ev C a env) fun x => M.bind (ev C i env) fun y => ixD x y
  | .sl a lo hi _ _, env => M.bind (ev C a env) fun x => M.bind (evO C lo env) fun l => M.bind (evO C hi env) fun h => M.of (slD x l h)
  | .rev a _ _ _ _ _, env => M.bind (ev C a env) fun x => match x with
    | .lst l => M.pure (.lst l.reverse)
    | .tup l => M.pure (.tup l.reverse)
    | _ => M.no
  | .call g es _ _, env => M.bind (evs C es env) fun l => C.c g l
  | .callv i es _ _, env => match env.get i with
    | some (.fn g) => if C.fn g then M.bind (evs C es env) fun l => C.c g l else M.no
    | _ => M.no
  | .act i _ _, env => match env.get i with
    | some .thk => C.th
    | _ => M.no
  | .lam g _ body _ _ _ _ _ _, env => M.bind (C.lamf g (ev { C with c := C.c0, lamf := fun _ _ => M.no, th := M.no } body env.vals)) fun d => if d.noth then M.pure d else M.no
  | .blt f _ es _ _, env => M.bind (evs C es env) fun l => bltM f l
  | .isi _ a t _ _ _, env => M.bind (ev C a env) fun x => M.of ((C.cls t x).map .bl)
  | .lc elt t it cs _ own _ _ _, env => M.bind (evI C it env) fun l => compL (fun d => tgt t d (env.wipe own)) (fun e => evB C .And cs e) (fun e => ev C elt e) l []
  | .bor i e, env => match env.own i with
    | some l => (if e.isO then flatL else flatM) (ev C e (env.set i (.val (.lst l))))
    | none => M.no
  | .ncup a b _, env => M.bind (ev C a env) fun x => M.bind (ev C b env) fun y => match x, y with
    | .int i, .int j => fun s => match s with
      | none => some (.ok .cup, some (i, j))
      | some _ => none
    | _, _ => M.no
  | .join x _ a _ _ _, env => M.bind (ev C a env) fun d => match d with
    | .lst l => match D.strs l with
      | some ss => if sizeOk ((ss.map (·.length)).sum + ss.length * x.length) then M.pure (.str (Txt.join x ss)) else M.no
      | none => M.no
    | _ => M.no
  | .dget i es _ _ _ _, env => match env.dic i with
    | some kvs => M.bind (evs C es env) fun l => match D.keyOf l with
      | some k => if sizeOk l.length then M.of (dVal kvs k) else M.no
      | none => M.no
    | none => M.no
  | .dgt i es _ _ e _ _ _, env => match env.dic i with
    | some kvs => M.bind (evs C es env) fun l => match D.keyOf l with
      | some k => if sizeOk l.length then M.bind (ev C e env) fun x => M.pure ((dVal kvs k).getD x) else M.no
      | none => M.no
    | none => M.no
def evs (C : Cl) : Es → En → M (List D)
  | .nil, _ => M.pure []
  | .cons e es, env => M.bind (ev C e env) fun x => M.bind (evs C es env) fun l => M.pure (x :: l)
def evB (C : Cl) (o : BoolOp) : Es → En → M D
  | .nil, _ => M.pure (.bl true)
  | .cons e .nil, env => ev C e env
  | .cons e (.cons e2 es), env => M.bind (ev C e env) fun x => match x with
    | .bl b => if b = (match o with | .And => true | .Or => false) then evB C o (.cons e2 es) env else M.pure (.bl b)
    | _ => M.no
def evO (C : Cl) : Oe → En → M (Option Int)
  | .no, _ => M.pure none
  | .so e, env => M.bind (ev C e env) fun x => match x with
    | .int i => M.pure (some i)
    | _ => M.no
def evI (C : Cl) : I → En → M (List D)
  | .seq e, env => M.bind (ev C e env) fun x => match x with
    | .lst l => M.pure l
    | .tup l => M.pure l
    | _ => M.no
  | .rg1 _ a _ _, env => M.bind (ev C a env) fun x => match x with
    | .int j => if int64 j then M.pure (rangeD 0 j.toNat) else M.no
    | _ => M.no
  | .rg2 _ a b _ _, env => M.bind (ev C a env) fun x => M.bind (ev C b env) fun y => match x, y with
    | .int i, .int j => if int64 i && int64 j then M.pure (rangeD i (j - i).toNat) else M.no
    | _, _ => M.no
  | .rg3 _ a b c _ _, env => M.bind (ev C a env) fun x => M.bind (ev C b env) fun y => M.bind (ev C c env) fun z => match x, y, z with
    | .int i, .int j, .int k => if k ≠ 0 ∧ k.natAbs < 1073741824 ∧ Builtin.Range.small i j k = true ∧ 0 ≤ Builtin.Range.rangeSize i j k then M.pure (rangeC i k (Builtin.Range.rangeSize i j k).toNat) else M.no
    | _, _, _ => M.no
  | .en _ a _ _, env => M.bind (ev C a env) fun x => match x with
    | .lst l => M.pure (enumD 0 l)
    | .tup l => M.pure (enumD 0 l)
    | _ => M.no
  | .zp _ a b _ _, env => M.bind (ev C a env) fun x => M.bind (ev C b env) fun y => match x, y with
    | .lst l, .lst r => M.pure (zipD l r)
    | .tup l, .tup r => M.pure (zipD l r)
    | .lst l, .tup r => M.pure (zipD l r)
    | .tup l, .lst r => M.pure (zipD l r)
    | _, _ => M.no
end
inductive Fl where
  | nx | brk | cnt | ret (d : D)
mutual
def D.nox : D → Bool
  | .exc _ _ => false
  | .lst l => D.noxs l
  | .tup l => D.noxs l
  | _ => true
def D.noxs : List D → Bool
  | [] => true
  | d :: ds => d.nox && D.noxs ds
end
def Sl.nox : Sl → Bool
  | .un => true
  | .val d => d.nox
  | .own ds => D.noxs ds
  | .dic kvs => kvs.all fun p => p.2.nox
def noxR (r : Fl × En) : Bool := (match r.1 with | .ret d => d.nox | _ => true) && r.2.all Sl.nox
def forL (tg : D → En → Option En) (body : En → M (Fl × En)) : List D → En → M (Fl × En)
  | [], env => M.pure (.nx, env)
  | d :: ds, env => match tg d env with
    | none => M.no
    | some env1 => M.bind (body env1) fun r => match r with
      | (.nx, env2) => forL tg body ds env2
      | (.cnt, env2) => forL tg body ds env2
      | (.brk, env2) => M.pure (.nx, env2)
      | (.ret d, env2) => M.pure (.ret d, env2)
def whlL (test : En → M D) (body : En → M (Fl × En)) : Nat → En → M (Fl × En)
  | 0, _ => M.no
  | n + 1, env => M.bind (test env) fun x => match x with
    | .bl false => M.pure (.nx, env)
    | .bl true => M.bind (body env) fun r => match r with
      | (.nx, env2) => whlL test body n env2
      | (.cnt, env2) => whlL test body n env2
      | (.brk, env2) => M.pure (.nx, env2)
      | (.ret d, env2) => M.pure (.ret d, env2)
    | _ => M.no
def nxt (env : En) : M (Fl × En) := M.pure (.nx, env)
mutual
def ex (C : Cl) : S → En → M (Fl × En)
  | .asg t e _, env => M.bind (ev C e env) fun x => M.bind (M.of (tgt t x env)) nxt
  | .asgO i _ e _, env => M.bind (ev C e env) fun x => match x with
    | .lst l => nxt (env.set i (.own l))
    | _ => M.no
  | .par oi oj i j _ _ _ _ a b _ _ _, env => M.bind (ev C a env) fun x => M.bind (ev C b env) fun y => M.bind (M.of (stF oi i x env)) fun env1 => M.bind (M.of (stF oj j y env1)) nxt
  | .par3 oi oj ol i j l _ _ _ _ _ a b c _ _ _, env => M.bind (ev C a env) fun x => M.bind (ev C b env) fun y => M.bind (ev C c env) fun z =>
    M.bind (M.of (stF oi i x env)) fun env1 => M.bind (M.of (stF oj j y env1)) fun env2 => M.bind (M.of (stF ol l z env2)) nxt
  | .dnew i _ _ _, env => nxt (env.set i (.dic []))
  | .dnew1 i _ es _ _ e _ _, env => M.bind (evs C es env) fun l => match D.keyOf l with
    | some k => if sizeOk l.length then M.bind (ev C e env) fun x => nxt (env.set i (.dic [(k, x)])) else M.no
    | none => M.no
  | .dput i _ es _ _ _ e _, env => M.bind (ev C e env) fun x => match env.dic i with
    | some kvs => M.bind (evs C es env) fun l => match D.keyOf l with
      | some k => if sizeOk l.length then (if sizeOk (kvs.length + 1) then nxt (env.set i (.dic (dPut kvs k x))) else M.no) else M.no
      | none => M.no
    | none => M.no
  | .setO i _ x _ e _, env => M.bind (ev C e env) fun d => match env.own i with
    | some l => M.bind (ev C x env) fun k => match k with
      | .int k => match ixN l.length k with
        | some j => nxt (env.set i (.own (l.set j d)))
        | none => M.no
      | _ => M.no
    | none => M.no
  | .setC i _ x _ e _, env => M.bind (ev C e env) fun d => match env.get i with
    | some .cup => M.bind (ev C x env) fun k => match k, d with
      | .int k, .int n => fun s => match s with
        | some (x, y) => if k = 0 then some (.ok (.nx, env), some (n, y)) else if k = 1 then some (.ok (.nx, env), some (x, n)) else none
        | none => none
      | _, _ => M.no
    | _ => M.no
  | .app i _ _ _ e _, env => match env.own i with
    | some l => M.bind (ev C e env) fun d => if sizeOk (l.length + 1) then nxt (env.set i (.own (l ++ [d]))) else M.no
    | none => M.no
  | .pop i _ _ _ _, env => match env.own i with
    | some (d :: l) => nxt (env.set i (.own (d :: l).dropLast))
    | _ => M.no
  | .expr e _, env => M.bind (ev C e env) fun _ => nxt env
  | .ret e _, env => M.bind (ev C e env) fun x => M.pure (.ret x, env)
  | .retN _, env => M.pure (.ret .non, env)
  | .iff c a b _, env => M.bind (ev C c env) fun x => match x with
    | .bl true => exs C a env
    | .bl false => exs C b env
    | _ => M.no
  | .whl c b _, env => whlL (ev C c) (exs C b) C.wf env
  | .fr t it b _, env => M.bind (evI C it env) fun l => forL (tgt t) (exs C b) l env
  | .brk _, env => M.pure (.brk, env)
  | .cnt _, env => M.pure (.cnt, env)
  | .pas _, env => nxt env
  | .rai g _ _ _ _ _ _, _ => M.raise g 0
  | .fz i, env => match env.own i with
    | some l => nxt (env.set i (.val (.lst l)))
    | none => M.no
  | .tre e _ g i _ _ b _, env => fun s => match ev C e env s with
    | some (.ok _, s') => some (.ok (.nx, env), s')
    | some (.ex c n, s') => match C.cls g (.exc c n) with
      | some true => M.bind (M.calm (exs C b (env.set i (.val (.exc c n))))) (fun r => if noxR (r.1, r.2.set i .un) then M.pure (r.1, r.2.set i .un) else M.no) s'
      | _ => none
    | none => none
def exs (C : Cl) : Ss → En → M (Fl × En)
  | .nil, env => nxt env
  | .cons s ss, env => M.bind (ex C s env) fun r => match r with
    | (.nx, env2) => exs C ss env2
    | r => M.pure r
end
structure Df where
  np : Nat
  names : List Str
  body : Ss
def enter (d : Df) (args : List D) : En := args.map .val ++ List.replicate (d.names.length - args.length) .un
def bodyM (C : Cl) (d : Df) (args : List D) : M D := if args.length = d.np then M.bind (exs C d.body (enter d args)) fun r => match r.1 with
  | .nx => M.pure .non
  | .ret x => M.pure x
  | _ => M.no else M.no
def run (P : Nat → Option Df) (cls : Nat → D → Option Bool) (wf : Nat) : Bool → Nat → Nat → List D → M D
  | _, 0, _, _ => M.no
  | l, n + 1, g, args => match P g with
    | some d => bodyM { c := run P cls wf l n, c0 := run P cls wf false n, lamf := fun g th => if l then (match P g with
        | some d => bodyM { c := run P cls wf false n, c0 := run P cls wf false n, lamf := fun _ _ => M.no, th := th, wf := wf, cls := cls, fn := fun g => (P g).isSome } d [.thk]
        | none => M.no) else M.no, th := M.no, wf := wf, cls := cls, fn := fun g => (P g).isSome } d args
    | none => M.no
end Co
set_option Elab.async false
set_option linter.all false
set_option maxRecDepth 100000
set_option maxHeartbeats 4000000
namespace Co
open PySem PySem.Spec PyProof.Rows L2 HotX L2H
section
variable {prog : Program} {w : World} {A : Around} {E : Value → Shared → Prop} {s : Shared}
theorem pyNext_list_end_hot {it l x1 : Addr} {i : Nat} {items : Array Value} {Q : Option Value → Shared → Prop} (hot : HotAt A x1 s.heap) (hx1 : x1 ≠ it)
    (hit : s.heap.IsListIter it l i) (hl : s.heap.IsList l items) (hx : items[i]? = none)
    (hQ : ∀ h', Heap.ExtBut it s.heap h' → Q none { s with heap := h' }) : wpAny (model prog w) A (pyNext (.ref it)) Q E s := by
  obtain ⟨o, ho, hc, hd⟩ := id hit
  obtain ⟨ol, hol, _, nl, hdl⟩ := hl
  obtain ⟨hh, o1, vs1, h1, d1, c1⟩ := hot
  unfold pyNext
  refine wpAny_bind (wpAny_attempt (wpAny_callSpecial?_slot (name := Str.ofString "__next__") hit.typeIs slot_listiter_next
    (wpAny_call_entry slot_listiter_next hit.typeIs entry_listiter_next ?_ (args_listiter_next _))))
  show wpAny _ _ (field (.ref it) 0 >>= _) _ _ s
  refine wpAny_bind (wpAny_field ho hd (x := .ref l) rfl ?_)
  show wpAny _ _ (if (Value.ref l == Value.none) = true then _ else _) _ _ s
  rw [if_neg (show ¬ ((Value.ref l == Value.none) = true) from Bool.false_ne_true)]
  show wpAny _ _ (field (.ref it) 1 >>= _) _ _ s
  refine wpAny_bind (wpAny_field ho hd (x := .int i 0) rfl ?_)
  show wpAny _ _ (seqItems? (.ref l) >>= _) _ _ s
  refine wpAny_bind (wpAny_seqItems hol hdl ?_)
  simp only [Int.toNat_natCast, hx]
  refine wpAny_bind (wpAny_rule (wpAny_bind (wpAny_setField ho hd (by simp) ?_)))
  show wpAny _ _ (newExc (.type "StopIteration") [] >>= _) _ _ _
  refine wpAny_bind ?_
  simp only [newExc, newTuple]
  refine wpAny_bind (wpAny_newObj_type ?_ (by size_fits))
  refine wpAny_bind (m := firstArgMember _ _) (wpAny_of_eq (a := Value.none) (by first | rfl | (simp only [firstArgMember]; rfl)) ?_)
  refine wpAny_newObj_type ?_ (by size_fits)
  have g1 := (Heap.get?_update_other s.heap (Obj.mapFields (·.setIfInBounds 0 Value.none)) (Ne.symm hx1)).trans h1
  refine raiseNew_hot ⟨hh, o1, vs1, Heap.get?_push_of_some _ (Heap.get?_push_of_some _ g1), d1, c1⟩ (Nat.ne_of_lt (Heap.lt_size (Heap.get?_push_of_some _ g1))) (Heap.get?_push_size _ rfl) rfl (by first | (simp; done) | (simp; omega) | (simp only [Array.size_append]; simp; omega)) ?_
  refine wpAny_bind (wpAny_isInstance (T := "StopIteration") (b := true) ⟨_, Heap.get?_update_self _ (Heap.get?_push_size _ rfl) rfl, rfl⟩ isSubtype_stop ?_)
  refine wpAny_pure (hQ _ fun b o hb e => ?_)
  have e1 := (Heap.get?_update_other s.heap (Obj.mapFields (·.setIfInBounds 0 Value.none)) (Ne.symm hb)).trans e
  rw [Heap.get?_update_other _ _ (Nat.ne_of_gt (Heap.lt_size (Heap.get?_push_of_some _ e1)))]
  exact Heap.get?_push_of_some _ (Heap.get?_push_of_some _ e1)
theorem next_tuple_end_hot {it t x1 : Addr} {i : Nat} {items : Array Value} {Q : Option Value → Shared → Prop} (hot : HotAt A x1 s.heap) (hx1 : x1 ≠ it)
    (hit : IsTupIter s.heap it t i) (ht : IsTup s.heap t items) (hx : items[i]? = none)
    (hQ : ∀ h', Heap.ExtBut it s.heap h' → Q none { s with heap := h' }) : wpAny (model prog w) A (pyNext (.ref it)) Q E s := by
  obtain ⟨o, ho, hc, hd⟩ := id hit
  obtain ⟨ol, hol, _, nl, hdl⟩ := ht
  obtain ⟨hh, o1, vs1, h1, d1, c1⟩ := hot
  unfold pyNext
  refine wpAny_bind (wpAny_attempt (wpAny_callSpecial?_slot (name := Str.ofString "__next__") hit.typeIs slot_tupleiter_next
    (wpAny_call_entry slot_tupleiter_next hit.typeIs entry_tupleiter_next ?_ (args_tupleiter_next _))))
  show wpAny _ _ (field (.ref it) 0 >>= _) _ _ s
  refine wpAny_bind (wpAny_field ho hd (x := .ref t) rfl ?_)
  show wpAny _ _ (if (Value.ref t == Value.none) = true then _ else _) _ _ s
  rw [if_neg (show ¬ ((Value.ref t == Value.none) = true) from Bool.false_ne_true)]
  show wpAny _ _ (field (.ref it) 1 >>= _) _ _ s
  refine wpAny_bind (wpAny_field ho hd (x := .int i 0) rfl ?_)
  show wpAny _ _ (seqItems? (.ref t) >>= _) _ _ s
  refine wpAny_bind (wpAny_seqItems hol hdl ?_)
  simp only [Int.toNat_natCast, hx]
  refine wpAny_bind (wpAny_rule (wpAny_bind (wpAny_setField ho hd (by simp) ?_)))
  show wpAny _ _ (newExc (.type "StopIteration") [] >>= _) _ _ _
  refine wpAny_bind ?_
  simp only [newExc, newTuple]
  refine wpAny_bind (wpAny_newObj_type ?_ (by size_fits))
  refine wpAny_bind (m := firstArgMember _ _) (wpAny_of_eq (a := Value.none) (by first | rfl | (simp only [firstArgMember]; rfl)) ?_)
  refine wpAny_newObj_type ?_ (by size_fits)
  have g1 := (Heap.get?_update_other s.heap (Obj.mapFields (·.setIfInBounds 0 Value.none)) (Ne.symm hx1)).trans h1
  refine raiseNew_hot ⟨hh, o1, vs1, Heap.get?_push_of_some _ (Heap.get?_push_of_some _ g1), d1, c1⟩ (Nat.ne_of_lt (Heap.lt_size (Heap.get?_push_of_some _ g1))) (Heap.get?_push_size _ rfl) rfl (by first | (simp; done) | (simp; omega) | (simp only [Array.size_append]; simp; omega)) ?_
  refine wpAny_bind (wpAny_isInstance (T := "StopIteration") (b := true) ⟨_, Heap.get?_update_self _ (Heap.get?_push_size _ rfl) rfl, rfl⟩ isSubtype_stop ?_)
  refine wpAny_pure (hQ _ fun b o hb e => ?_)
  have e1 := (Heap.get?_update_other s.heap (Obj.mapFields (·.setIfInBounds 0 Value.none)) (Ne.symm hb)).trans e
  rw [Heap.get?_update_other _ _ (Nat.ne_of_gt (Heap.lt_size (Heap.get?_push_of_some _ e1)))]
  exact Heap.get?_push_of_some _ (Heap.get?_push_of_some _ e1)
theorem hotAt_ext {x1 b : Addr} {h h' : Heap} (hot : HotAt A x1 h) (hb : x1 ≠ b) (e : Heap.ExtBut b h h') : HotAt A x1 h' := by
  obtain ⟨hh, o1, vs1, h1, d1, c1⟩ := hot
  exact ⟨hh, o1, vs1, e x1 o1 hb h1, d1, c1⟩
theorem HotAt.lt {x1 : Addr} {h : Heap} (hot : HotAt A x1 h) : x1 < h.objs.size := by
  obtain ⟨_, o1, vs1, h1, _⟩ := hot
  exact Heap.lt_size h1
theorem unpackItems_tuple_hot {t x1 : Addr} {items : Array Value} {Q : List Value → Shared → Prop} (hot : HotAt A x1 s.heap) (ht : IsTup s.heap t items)
    (hQ : ∀ h', Heap.ExtBut s.heap.objs.size s.heap h' → Q items.toList { s with heap := h' }) : wpAny (model prog w) A (unpackItems (.ref t) items.size none) Q E s := by
  have hlt : t ≠ s.heap.objs.size := by obtain ⟨o, ho, _⟩ := ht; exact Nat.ne_of_lt (Heap.lt_size ho)
  have hx1 : x1 ≠ s.heap.objs.size := Nat.ne_of_lt (HotAt.lt hot)
  unfold unpackItems
  refine wpAny_bind ?_
  · unfold notIterableAtAll
    refine wpAny_bind (wpAny_specialOf ht.typeIs slot_tuple_iter.lookup ?_)
    refine wpAny_pure ?_
    simp only [Bool.false_eq_true, if_false]
    refine wpAny_bind (wpAny_holding (iter_tuple ht ?_))
    refine wpAny_bind (wpAny_holding (draw_tuple hlt items.size 0 _ _ ⟨_, Heap.get?_push_size _ rfl, rfl, rfl⟩ (ht.push _) (by omega) fun h₁ hit₁ hs₁ => ?_))
    have hall : List.take items.size (List.drop 0 items.toList) = items.toList := by
      rw [List.drop_zero]; exact List.take_of_length_le (by simp)
    rw [hall]
    rw [if_neg (by simp)]
    have ht₁ : IsTup h₁ t items := (ht.push _).extBut hs₁.extBut hlt
    have hot₁ : HotAt A x1 h₁ := by
      refine hotAt_ext (b := s.heap.objs.size) (h := s.heap.push { cls := .type "tuple_iterator", data := .fields #[.ref t, .int 0 0] }) ?_ hx1 hs₁.extBut
      obtain ⟨hh, o1, vs1, h1, d1, c1⟩ := hot
      exact ⟨hh, o1, vs1, Heap.get?_push_of_some _ h1, d1, c1⟩
    refine wpAny_bind (wpAny_holding (next_tuple_end_hot hot₁ hx1 hit₁ ht₁ (by simp) fun h₂ he₂ => ?_))
    simp only [Option.isSome_none, Bool.false_eq_true, if_false]
    refine wpAny_pure (hQ h₂ fun b o hb e => he₂ b o hb (hs₁.extBut b o hb (Heap.get?_push_of_some _ e)))
theorem assign_Tuple_tuple_hot {env : Env} {elts : List Expr} {k1} {pos : Pos} {t x1 : Addr} {items : Array Value} {Q : Unit → Shared → Prop} (hot : HotAt A x1 s.heap) (ht : IsTup s.heap t items)
    (hn : (assignEach elts env).length = items.size) (hstar : (assignEach elts env).findIdx? (·.1) = none)
    (h : ∀ h', Heap.ExtBut s.heap.objs.size s.heap h' → wpAny (model prog w) A (assignInOrder ((assignEach elts env).map (·.2)) items.toList) Q E { s with heap := h' }) :
    wpAny (model prog w) A (assign (.Tuple elts k1 pos) env (.ref t)) Q E s := by
  rw [assign_Tuple]
  refine wpAny_bind (wpAny_standAt ?_)
  unfold unpack
  rw [hn, hstar]
  exact wpAny_bind (wpAny_holding (unpackItems_tuple_hot hot ht h))
end
def Md (X : Cx) : Prop := X.calm = true ∨ HotC X
theorem pg_tupM {X : Cx} {es : List Expr} {k : Nat} {t : TGs} {n : Nat} {pos : Pos} (hc : Md X) (h : PGs X es t)
    (hn : (assignEach es X.env).length = n) (hst : (assignEach es X.env).findIdx? (·.1) = none) : PG X (.Tuple es k pos) (gTup X.K n t) := by
  rcases hc with hc | hc
  · exact pg_tup hc h hn hst
  refine ⟨fun pins s σ H v u Q I r hw => ?_⟩
  obtain ⟨a, xs, e1, hq, hl, hw⟩ := hw
  subst e1
  cases r
  obtain ⟨its, rv, ht, hz⟩ := I.tuple hq
  obtain ⟨x1, hot⟩ := hc.at I
  refine assign_Tuple_tuple_hot hot ht (by simp [hn, ← hl, rv.length]) hst fun h' hx => ?_
  have I1 : Inv X pins σ H { s with heap := h' } := I.kept (t' := s.toks) fun b o e => hx b o (Nat.ne_of_lt (Heap.lt_size e)) e
  exact h.run pins _ σ H xs _ Q I1 (by simpa using rv) hw
structure TurnM (P : Program) (w : World) (K : PySem.W.Frag) (tg : Expr) (J : It) (fp : List Addr) (it : Addr) (tn : Nat → Heap → Prop) (m : Cx → Prop) : Prop where
  mem : it ∈ fp
  obj : ∀ i h, tn i h → ∀ b ∈ fp, ∃ o, h.get? b = some o ∧ ∀ v, o.data ≠ .cell v
  keep : ∀ i h h', tn i h → (∀ b ∈ fp, ∀ o, h.get? b = some o → h'.get? b = some o) → tn i h'
  item : ∀ (X : Cx), X.prog = P → X.w = w → X.K = K → m X → ∀ (i : Nat) (pins : List (Addr × Obj)) (s : Shared) (σ : L2.St) (H : Hp) (E : Value → Shared → Prop), Inv X pins σ H s → (∀ b ∈ fp, FpOk X pins H b) → tn i s.heap → J.go i H →
    wpAny (model P w) X.A (pyNext (.ref it)) (fun r s1 => ∃ u, r = some u ∧
      wpAny (model P w) X.A (letOwnedTupleGo tg (.ref it) u) (fun _ s2 => ∃ x H', Inv X pins σ H' s2 ∧ RelV x u ∧ J.yld i H x H' ∧ tn (i + 1) s2.heap ∧ ∀ b ∈ fp, H' b = none) E s1) E s
  done : ∀ (X : Cx), X.prog = P → X.w = w → X.K = K → m X → ∀ (i : Nat) (pins : List (Addr × Obj)) (s : Shared) (σ : L2.St) (H : Hp) (E : Value → Shared → Prop), Inv X pins σ H s → (∀ b ∈ fp, FpOk X pins H b) → tn i s.heap → J.stop i H →
    wpAny (model P w) X.A (pyNext (.ref it)) (fun r s1 => r = none ∧ Inv X pins σ H s1) E s
  self : ∀ (A : Around) (i : Nat) (s : Shared) (Q : Value → Shared → Prop) (E : Value → Shared → Prop), tn i s.heap → Q (.ref it) s → wpAny (model P w) A (pyIter (.ref it)) Q E s
abbrev Calm (X : Cx) : Prop := X.calm = true
theorem TurnM.of {P : Program} {w : World} {K : PySem.W.Frag} {tg : Expr} {J : It} {fp : List Addr} {it : Addr} {tn : Nat → Heap → Prop} (t : Turn P w K tg J fp it tn) : TurnM P w K tg J fp it tn Calm :=
  ⟨t.mem, t.obj, t.keep, fun X a b c d => t.item X a b c d, fun X a b c d => t.done X a b c d, t.self⟩
theorem turn_listM {P : Program} {w : World} {K : PySem.W.Frag} {tg : Expr} (a it : Addr) : TurnM P w K tg (Itl K a) [it] it (fun i h => h.IsListIter it a i) Md where
  mem := by simp
  obj := (turn_list (P := P) (w := w) (K := K) (tg := tg) a it).obj
  keep := (turn_list (P := P) (w := w) (K := K) (tg := tg) a it).keep
  item := by
    intro X hP hw hK hc i pins s σ H E I hf st hg
    subst hP hw hK
    obtain ⟨xs, x, hq, hx⟩ := hg
    obtain ⟨its, rv, p, hz⟩ := I.list hq
    obtain ⟨u, hu, ru⟩ := rv.get hx
    obtain ⟨f0, f1, f2, f3, f4, f5⟩ := hf it (by simp)
    refine wpAny_pyNext_list_item st p.isList (x := u) (by simpa using hu) fun h' st' sb => ?_
    have I1 : Inv X pins σ H { s with heap := h' } := I.turned (t' := s.toks) (fun b o hb e => (sb.2 b hb).trans e) f0 f1 f3 f4 f5
    obtain ⟨o, e, c, d⟩ := id st'
    exact ⟨u, rfl, go_of (s := { s with heap := h' }) e c d (by decide) ⟨x, H, I1, ru, ⟨rfl, fun ys hy => by rw [I.list_inj hy hq]; exact hx⟩, st', fun b hb => (hf b hb).1⟩⟩
  done := by
    intro X hP hw hK hc i pins s σ H E I hf st hg
    subst hP hw hK
    rcases hc with hc | hc
    · exact (turn_list (P := X.prog) (w := X.w) (tg := tg) a it).done X rfl rfl rfl hc i pins s σ H E I hf st hg
    obtain ⟨xs, hq, hx⟩ := hg
    obtain ⟨its, rv, p, hz⟩ := I.list hq
    obtain ⟨f0, f1, f2, f3, f4, f5⟩ := hf it (by simp)
    have hl := rv.length
    obtain ⟨q, ⟨hh, v1, e1, c1⟩, hq⟩ := hc
    have P1 := (I.pin q (List.mem_append_left _ hq)).1
    exact pyNext_list_end_hot (x1 := q.1) ⟨hh, q.2, v1, P1, e1, c1⟩ (f5 q (List.mem_append_left _ hq)) st p.isList (by simp; omega) fun h' eb => ⟨rfl, I.turned (t' := s.toks) (fun b o hb e => eb b o hb e) f0 f1 f3 f4 f5⟩
  self := fun _ _ _ _ _ st h => wpAny_pyIter_listiter st h
def PIEM (X : Cx) (m : Cx → Prop) (pins : List (Addr × Obj)) (σ : L2.St) (tg : Expr) (R : It → Hp → Prop) (itv : Value) (s2 : Shared) : Prop :=
  ∃ (it : Addr) (fp : List Addr) (tn : Nat → Heap → Prop) (J : It) (H' : Hp), itv = .ref it ∧ Inv X pins σ H' s2 ∧ TurnM X.prog X.w X.K tg J fp it tn m ∧ tn 0 s2.heap ∧ (∀ b ∈ fp, FpOk X pins H' b) ∧ R J H'
structure PIM (X : Cx) (m : Cx → Prop) (tg iter : Expr) (wi : TI) : Prop where
  run : ∀ (pins : List (Addr × Obj)) (s : Shared) (σ : L2.St) (H : Hp) (R : It → Hp → Prop), Inv X pins σ H s → wi σ H R →
    wpAny (model X.prog X.w) X.A (eval iter X.env) (fun v s1 => wpAny (model X.prog X.w) X.A (pyIter v) (PIEM X m pins σ tg R) X.xe s1) X.xe s
theorem PIM.of {X : Cx} {tg iter : Expr} {wi : TI} (h : PI X tg iter wi) : PIM X Calm tg iter wi := ⟨fun pins s σ H R I q =>
  thn (h.run pins s σ H R I q) fun v s1 h1 => thn h1 fun itv s2 ⟨it, fp, tn, J, H', e, I2, t, a, b, c⟩ => ⟨it, fp, tn, J, H', e, I2, .of t, a, b, c⟩⟩
theorem pi_listM {X : Cx} {tg l : Expr} {tl : TE} (hl : PE X l tl) : PIM X Md tg l (iList X.K tl) := by
  refine ⟨fun pins s σ H R I h => ?_⟩
  refine thn (hl.run pins s σ H _ I h) fun v s1 ⟨x, H1, I1, r1, q1⟩ => ?_
  obtain ⟨a, e, ⟨xs, hq⟩, q⟩ := q1
  subst e
  cases r1
  obtain ⟨its, rv, p, hz⟩ := I1.list hq
  refine wpAny_pyIter_list p.isList ?_
  refine ⟨s1.heap.objs.size, [s1.heap.objs.size], _, _, H1, rfl, I1.kept (t' := s1.toks) fun b o e => Heap.get?_push_of_some _ e, turn_listM a _, ⟨_, Heap.get?_push_size _ rfl, rfl, rfl⟩, fun b hb => ?_, q⟩
  have e : b = s1.heap.objs.size := by simpa using hb
  subst e
  exact I1.fpOk (Nat.le_refl _) (I1.hok.fresh (Nat.le_refl _))
abbrev blkM (X : Cx) (s : Shared) (H : Hp) (scope : Scope) (cenv : Env) (fp : List Addr) : Cx := { X with s_0 := s, H_0 := H, env := cenv, outer := X.stack, ex := fp, fn := fun x => scope.names.lookup x == some .cell, xe := fun _ _ => False }
theorem block_startM {X : Cx} {pins : List (Addr × Obj)} {σ : L2.St} {H : Hp} {s : Shared} {scope : Scope} {own : List (Str × Nat)} {fp : List Addr} (I : Inv X pins σ H s) (ok : BlkOk X.N X.env.scope scope own) (hN : X.N.Nodup) (hfp : ∀ b ∈ fp, FpOk X pins H b ∧ b < s.heap.objs.size) :
    Inv (blkM X s H scope (compEnvC scope (cellsFrom (s.heap.objs.size + 1) scope.names (cloFrom X.env.cells scope.names [])) s.heap.objs.size X.env) fp) [] (wipe σ (own.map (·.2))) H { s with heap := pushCells (s.heap.push { cls := .type "dict", data := .dict #[] }) scope.names } := by
  have J := block_start I ok hN hfp
  have kp : ∀ b o, s.heap.get? b = some o → (pushCells (s.heap.push { cls := .type "dict", data := .dict #[] }) scope.names).get? b = some o := fun b o e => pushCells_keeps _ _ _ _ (Heap.get?_push_of_some _ e)
  have k := J.ok
  refine ⟨⟨k.mod, k.kind, k.glob, k.blt, k.above, k.inj, k.has, k.cab, k.hd, k.frames, k.stk, k.exf, k.bs, k.bsz, k.noex, k.exfs, k.funs, k.frf⟩, J.os, J.bare, J.base, J.loc, J.cell, J.free, J.freeC, fun p hp => ?_, J.hok, J.len⟩
  have hp' : p ∈ X.pn := by simpa using (show p ∈ X.pn ++ ([] : List (Addr × Obj)) from hp)
  obtain ⟨e, n, ne, nf, d⟩ := I.pin p (List.mem_append_left _ hp')
  refine ⟨kp _ _ e, n, Nat.ne_of_lt (Heap.lt_size e), fun hm => ?_, d⟩
  rcases List.mem_cons.mp (I.stkSub p.1 hm) with z | z
  · exact ne z
  · exact nf z
theorem lcM_core {X : Cx} {m : Cx → Prop} {pins : List (Addr × Obj)} {s : Shared} {σ : L2.St} {H : Hp} {Q : VK} {elt tg iter : Expr} {ifs : List Expr} {scope : Scope} {own : List (Str × Nat)} {pos pos' : Pos} {wi : TI} {g : TG} {tt : TT} {te : TE} {use : Option (Value → Sem Unit)} {Qf : Value → Shared → Prop}
    (hm : ∀ s H cenv fp, m (blkM X s H scope cenv fp)) (hN : X.N.Nodup) (I : Inv X pins σ H s) (hi : PIM X m tg iter wi) (ok : BlkOk X.N X.env.scope scope own)
    (hg : ∀ (s : Shared) (H : Hp) (C : Addr) (cl : List (Str × Addr)) (fp : List Addr), PG (blkM X s H scope (compEnvC scope cl C X.env) fp) tg g) (ht : ∀ (s : Shared) (H : Hp) (C : Addr) (cl : List (Str × Addr)) (fp : List Addr), PTs (blkM X s H scope (compEnvC scope cl C X.env) fp) ifs tt)
    (he : ∀ (s : Shared) (H : Hp) (C : Addr) (cl : List (Str × Addr)) (fp : List Addr), PE (blkM X s H scope (compEnvC scope cl C X.env) fp) elt te) (hs : ∀ x, foldedSetIterable iter X.env x = pure x)
    (h : tLc wi g tt te (own.map (·.2)) σ H Q)
    (hRR : ∀ D C s' m H', Inv X pins σ H' s' → Q (.ref D) H' → s'.heap.Ns C m → FpOk X pins H' C → compPost (model X.prog X.w) X.A X.xe use Qf (.ref D) C (.ok .next) s') :
    wpAny (model X.prog X.w) X.A (comprehension (.ListComp elt [⟨tg, iter, ifs, 0⟩] scope pos) scope X.env pos' (newList []) false (eval iter X.env) use) Qf X.xe s := by
  have hfree : ∀ y ∈ scope.names, y.2 = .free → ∃ c, X.env.cells.lookup y.1 = some c := fun y hy e => by
    rcases ok.free y hy e with k | k
    · exact I.ok.has _ (.inl k)
    · exact I.ok.has _ (.inr k)
  refine wpAny_comprehension_free (use := use) rfl hs (closure_ok hfree) ok.kind (fun y hy e => by rw [ok.uniq y hy, e])
    (thn (hi.run pins s σ H _ I h) fun xv s1 hx => thn hx fun itv s2 h2 => ?_)
  obtain ⟨it, fp, tn, J, H2, e, I2, T, st2, f2, q⟩ := h2
  subst e
  refine wpAny_newObj_type (newEnv_comp ?_) (by show 0 ≤ sizeLine; decide)
  generalize hD : s2.heap.objs.size = D
  have hDn : H2 D = none := I2.hok.fresh (Nat.le_of_eq hD)
  obtain ⟨W, ⟨m0, w0⟩, turn⟩ := q D hDn
  generalize hs3 : ({ s2 with heap := s2.heap.push { cls := .type "list", data := .seq ([] : List Value).toArray } } : Shared) = s3
  have I3 : Inv X pins σ (upd H2 D (.lst [])) s3 := by
    rw [← hs3]
    refine I2.laid (t' := s2.toks) (fun b o e => Heap.get?_push_of_some _ e) (Nat.le_of_eq hD) ⟨Nat.zero_le _, [], 0, .nil, ?_⟩
    rw [← hD]
    exact Heap.get?_push_size _ rfl
  have h3 : s3.heap = s2.heap.push { cls := .type "list", data := .seq ([] : List Value).toArray } := by rw [← hs3]
  have sz : ∀ b ∈ fp, b < s2.heap.objs.size := fun b hb => by
    obtain ⟨o, e, _⟩ := T.obj _ _ st2 b hb
    exact Heap.lt_size e
  have f3 : ∀ b ∈ fp, FpOk X pins (upd H2 D (.lst [])) b ∧ b < s3.heap.objs.size := fun b hb => by
    have hlt := sz b hb
    refine ⟨⟨?_, (f2 b hb).2⟩, by rw [h3, Heap.size_push]; exact Nat.lt_succ_of_lt hlt⟩
    rw [upd_ne (by rw [← hD]; exact Nat.ne_of_lt hlt)]
    exact (f2 b hb).1
  have st3 : tn 0 s3.heap := T.keep _ _ _ st2 fun b _ o e => by rw [h3]; exact Heap.get?_push_of_some _ e
  have I4 := block_startM I3 ok hN f3
  have pg := hg s3 (upd H2 D (.lst [])) s3.heap.objs.size (cellsFrom (s3.heap.objs.size + 1) scope.names (cloFrom X.env.cells scope.names [])) fp
  have pt := ht s3 (upd H2 D (.lst [])) s3.heap.objs.size (cellsFrom (s3.heap.objs.size + 1) scope.names (cloFrom X.env.cells scope.names [])) fp
  have pe := he s3 (upd H2 D (.lst [])) s3.heap.objs.size (cellsFrom (s3.heap.objs.size + 1) scope.names (cloFrom X.env.cells scope.names [])) fp
  have mm := hm s3 (upd H2 D (.lst [])) (compEnvC scope (cellsFrom (s3.heap.objs.size + 1) scope.names (cloFrom X.env.cells scope.names [])) s3.heap.objs.size X.env) fp
  show codeAny _ _ (.compStart (.ListComp elt [⟨tg, iter, ifs, 0⟩] scope pos) 0 (.ref it) (.ref D) (compEnvC scope (cellsFrom (s3.heap.objs.size + 1) scope.names (cloFrom X.env.cells scope.names [])) s3.heap.objs.size X.env)) (compPost (model X.prog X.w) X.A X.xe use Qf (.ref D) s3.heap.objs.size) { s3 with heap := pushCells (s3.heap.push { cls := .type "dict", data := .dict #[] }) scope.names }
  have nfp : ∀ b ∈ fp, (upd H2 D (.lst [])) b = none := fun b hb => (f3 b hb).1.1
  generalize hce : compEnvC scope (cellsFrom (s3.heap.objs.size + 1) scope.names (cloFrom X.env.cells scope.names [])) s3.heap.objs.size X.env = ce at I4 pg pt pe mm ⊢
  have cL : ce.locals = s3.heap.objs.size := by subst hce; rfl
  generalize hH3 : upd H2 D (.lst []) = H3 at I3 I4 pg pt pe mm w0 nfp f3
  generalize hs4 : ({ s3 with heap := pushCells (s3.heap.push { cls := .type "dict", data := .dict #[] }) scope.names } : Shared) = s4 at I4 ⊢
  have st4 : tn 0 s4.heap := T.keep _ _ _ st3 fun b _ o e => by rw [← hs4]; exact pushCells_keeps _ _ _ _ (Heap.get?_push_of_some _ e)
  have stat : ∀ {σ' : L2.St} {H' : Hp} {s' : Shared}, Inv (blkM X s3 H3 scope ce fp) [] σ' H' s' → (∀ b ∈ fp, H' b = none) → ∀ b ∈ fp, FpOk (blkM X s3 H3 scope ce fp) [] H' b := fun {σ' H' s'} I' hn b hb =>
    ⟨hn b hb, (I'.ok.exf b hb).1, I'.ok.exfs b hb, .inl hb, fun x c e => (I'.ok.exf b hb).2 x c e, fun p hp => (f3 b hb).1.2.2.2.2.2 p (List.mem_append_left _ (by simpa using (show p ∈ X.pn ++ ([] : List (Addr × Obj)) from hp)))⟩
  have loop : codeAny (model X.prog X.w) X.A (.compLoop (.ListComp elt [⟨tg, iter, ifs, 0⟩] scope pos) 0 (.ref it) (.ref D) ce) (compPost (model X.prog X.w) X.A X.xe use Qf (.ref D) s3.heap.objs.size) s4 := by
    refine compLoop_any (fun n s' => ∃ i H', Inv (blkM X s3 H3 scope ce fp) [] (wipe σ (own.map (·.2))) H' s' ∧ tn i s'.heap ∧ (∀ b ∈ fp, H' b = none) ∧ W i n H') ?_ m0 ⟨0, H3, I4, st4, nfp, w0⟩
    rintro n s5 ⟨i, H5, I5, st5, n5, w5⟩
    rcases turn i n H5 w5 with ⟨stop, qq⟩ | ⟨go, Nx, hNx, step⟩
    · have td := T.done (blkM X s3 H3 scope ce fp) rfl rfl rfl mm i [] s5 _ H5 (fun _ _ => False) I5 (stat I5 n5) st5 stop
      refine thnF td fun r s6 ⟨hr, I6⟩ => ?_
      subst hr
      have I7 : Inv X pins σ H5 s6 := I3.call' (ch := fp) I6.os I6.base I6.hok I6.bare fun b hb => ⟨(f3 b hb).1.2.2.2.1, (f3 b hb).1.2.1, (f3 b hb).1.2.2.2.2.1, (f3 b hb).1.2.2.2.2.2⟩
      have nC : H5 s3.heap.objs.size = none := by
        have z : H5 ce.locals = none := I6.free
        rw [cL] at z
        exact z
      obtain ⟨m, hn, _⟩ := I6.loc
      have hn : s6.heap.Ns ce.locals m := hn
      rw [cL] at hn
      exact hRR D s3.heap.objs.size s6 m H5 I7 qq hn (I3.fpOk (Nat.le_refl _) nC)
    · have ti := T.item (blkM X s3 H3 scope ce fp) rfl rfl rfl mm i [] s5 _ H5 (fun _ _ => False) I5 (stat I5 n5) st5 go
      refine thnF ti fun r s6 ⟨u, hr, h6⟩ => ?_
      subst hr
      refine thnF h6 fun _ s7 ⟨x, H7, I7, r7, y7, st7, n7⟩ => ?_
      have I7' := I7.pinned (stat I7 n7) (T.obj _ _ st7)
      refine thnF (pg.run _ s7 _ H7 x u _ I7' r7 (step x H7 y7)) fun _ s8 ⟨σ8, H8, I8, hw8, q8⟩ => ?_
      refine thnF (pt.run _ s8 σ8 H8 _ I8 q8) fun b s9 ⟨H9, I9, q9⟩ => ?_
      have fin : ∀ {s' : Shared} {H' : Hp}, Inv (blkM X s3 H3 scope ce fp) ([] ++ pinsAt fp s7.heap) σ8 H' s' → Nx H' → ∃ m, m < n ∧ ∃ i H', Inv (blkM X s3 H3 scope ce fp) [] (wipe σ (own.map (·.2))) H' s' ∧ tn i s'.heap ∧ (∀ b ∈ fp, H' b = none) ∧ W i m H' := fun {s' H'} I' nx => by
        obtain ⟨m', hm, w'⟩ := hNx H' nx
        have pin' : ∀ b ∈ fp, ∀ o, s7.heap.get? b = some o → s'.heap.get? b = some o ∧ H' b = none := fun b hb o e =>
          let z := I'.pin (b, o) (List.mem_append_right _ (List.mem_append_right _ (mem_pinsAt hb e)))
          ⟨z.1, z.2.1⟩
        have hl : (wipe σ (own.map (·.2))).length = σ8.length := by rw [← hw8, wipe_length]
        refine ⟨m', hm, i + 1, H', (I'.unpinned (pins := [])).weak hl (fun j v e => ?_), T.keep _ _ _ st7 fun b hb o e => (pin' b hb o e).1, fun b hb => ?_, w'⟩
        · rw [← hw8] at e
          exact (wipe_some e).1
        · obtain ⟨o, e, _⟩ := T.obj _ _ st7 b hb
          exact (pin' b hb o e).2
      cases b with
      | false =>
        simp only [Bool.false_eq_true, if_false] at q9 ⊢
        exact fin I9 q9
      | true =>
        simp only [if_true] at q9 ⊢
        refine thnF (pe.run _ s9 σ8 H9 _ I9 q9) fun z s10 ⟨yv, H10, I10, r10, acc, hD10, hz10, nx⟩ => ?_
        exact app_ok (X := blkM X s3 H3 scope ce fp) I10 hD10 hz10 r10 fun s11 I11 => fin I11 nx
  exact codeAny_compStart_list loop (T.self X.A 0 _ _ _ st4 loop)
section
variable {X : Cx} {m : Cx → Prop} {elt tg iter : Expr} {ifs : List Expr} {scope : Scope} {own : List (Str × Nat)} {pos : Pos} {wi : TI} {g : TG} {tt : TT} {te : TE}
theorem pe_lcM (hm : ∀ s H cenv fp, m (blkM X s H scope cenv fp)) (hN : X.N.Nodup) (hi : PIM X m tg iter wi) (ok : BlkOk X.N X.env.scope scope own)
    (hg : ∀ (s : Shared) (H : Hp) (C : Addr) (cl : List (Str × Addr)) (fp : List Addr), PG (blkM X s H scope (compEnvC scope cl C X.env) fp) tg g) (ht : ∀ (s : Shared) (H : Hp) (C : Addr) (cl : List (Str × Addr)) (fp : List Addr), PTs (blkM X s H scope (compEnvC scope cl C X.env) fp) ifs tt)
    (he : ∀ (s : Shared) (H : Hp) (C : Addr) (cl : List (Str × Addr)) (fp : List Addr), PE (blkM X s H scope (compEnvC scope cl C X.env) fp) elt te) (hs : ∀ x, foldedSetIterable iter X.env x = pure x) :
    PE X (.ListComp elt [⟨tg, iter, ifs, 0⟩] scope pos) (tLc wi g tt te (own.map (·.2))) := by
  refine ⟨fun pins s σ H Q I h => ?_⟩
  rw [eval_ListComp]
  refine lcM_core hm hN I hi ok hg ht he hs h fun D C s' m H' I' q hn f => ⟨m, hn, fun h'' sb => ?_⟩
  obtain ⟨f0, f1, f2, f3, f4, f5⟩ := f
  exact ⟨.ref D, H', I'.turned (t' := s'.toks) (fun b o hb e => (sb.2 b hb).trans e) f0 f1 f3 f4 f5, rfl, q⟩
theorem ps_setLcM {i : Nat} {y : Str} {py spos : Pos} (hm : ∀ s H cenv fp, m (blkM X s H scope cenv fp)) (hN : X.N.Nodup) (hy : X.N[i]? = some y) (hyl : X.env.scope.names.lookup y = some .local)
    (hsw : swapsWith (.ListComp elt [⟨tg, iter, ifs, 0⟩] scope pos) (some (.Name y py)) spos.line X.env = pure true) (hi : PIM X m tg iter wi) (ok : BlkOk X.N X.env.scope scope own)
    (hg : ∀ (s : Shared) (H : Hp) (C : Addr) (cl : List (Str × Addr)) (fp : List Addr), PG (blkM X s H scope (compEnvC scope cl C X.env) fp) tg g) (ht : ∀ (s : Shared) (H : Hp) (C : Addr) (cl : List (Str × Addr)) (fp : List Addr), PTs (blkM X s H scope (compEnvC scope cl C X.env) fp) ifs tt)
    (he : ∀ (s : Shared) (H : Hp) (C : Addr) (cl : List (Str × Addr)) (fp : List Addr), PE (blkM X s H scope (compEnvC scope cl C X.env) fp) elt te) (hs : ∀ x, foldedSetIterable iter X.env x = pure x) :
    PS X (.Assign [.Name y py] (.ListComp elt [⟨tg, iter, ifs, 0⟩] scope pos) spos) (tAsg (tLc wi g tt te (own.map (·.2))) (gName i)) := by
  refine ⟨fun pins s σ H D I h => ?_⟩
  rw [exec_Assign_Name_used _ _ _ _ hsw]
  refine wpAny_bind (wpAny_standAt (wpAny_bind ?_))
  show wpAny _ X.A (do let _ ← comprehension (.ListComp elt [⟨tg, iter, ifs, 0⟩] scope pos) scope X.env (firstIterPos [⟨tg, iter, ifs, 0⟩] pos) (newList []) false (eval iter X.env) (some (assign (.Name y py) X.env))) _ _ s
  have h : tLc wi g tt te (own.map (·.2)) σ H (fun x H1 => gName i x σ H1 D.nx) := h
  refine wpAny_bind (thn (lcM_core (Qf := fun _ s' => SP X pins D .next s') hm hN I hi ok hg ht he hs h fun L C s' m H' I' q hn f => ?_) fun _ s' hq => wpAny_pure (wpAny_pure hq))
  show wpAny _ _ (assign (.Name y py) X.env (.ref L)) _ _ _
  refine wpAny_assign_Name (store_ok2 (v := V.ref L) I' hN hy (.inl hyl) rfl (fun s2 I2 ⟨a, sb, ha⟩ => ?_) (.inr hyl))
  obtain ⟨f0, f1, f2, f3, f4, f5⟩ := f
  have haC : C ≠ a := by
    rcases ha with z | z
    · intro e; exact f1 (e.trans z)
    · intro e; exact f4 _ _ z e.symm
  refine ⟨m, hn.sameBut sb haC, fun h'' sb' => ?_⟩
  exact ⟨_, H', I2.turned (t' := s2.toks) (fun b o hb e => (sb'.2 b hb).trans e) f0 f1 f3 f4 f5, q⟩
end
theorem Md.blk {X : Cx} (h : Md X) (s : Shared) (H : Hp) (scope : Scope) (cenv : Env) (fp : List Addr) : Md (blkM X s H scope cenv fp) := by
  rcases h with h | ⟨p, a, b⟩
  · exact .inl h
  · exact .inr ⟨p, a, b⟩
end Co
set_option Elab.async false
set_option linter.all false
set_option maxRecDepth 100000
set_option maxHeartbeats 4000000
namespace Co
open PySem PySem.Spec PyProof.Rows L2 HotX L2H HT
section
variable {prog : Program} {w : World} {A : Around} {E : Value → Shared → Prop} {s : Shared}
theorem sliceApplied_rev {sl : Addr} {vl vu vs : Value} {n : Nat} {Q : Int × Int × Nat → Shared → Prop} (hs : s.heap.IsSliceOf sl vl vu vs) (pl : IsPart vl none) (pu : IsPart vu none) (ps : IsPart vs (some (-1)))
    (h : Q ((n : Int) - 1, -1, n) s) : wpAny (model prog w) A (Builtin.Slice.sliceApplied (.ref sl) (pure (n : Int))) Q E s := by
  obtain ⟨os, hos, hcs, hds⟩ := id hs
  unfold Builtin.Slice.sliceApplied Builtin.Slice.sliceFields
  refine wpAny_bind (wpAny_bind (wpAny_field hos hds (x := vl) rfl (wpAny_bind (wpAny_field hos hds (x := vu) rfl (wpAny_bind (wpAny_field hos hds (x := vs) rfl (wpAny_pure ?_)))))))
  refine wpAny_bind (slicePart_ ps ?_)
  show wpAny _ _ (if ((-1 : Int) == 0) = true then _ else _) _ _ s
  rw [if_neg (by decide)]
  refine wpAny_bind (slicePart_ pl (wpAny_bind (slicePart_ pu (wpAny_bind (wpAny_pure ?_)))))
  show wpAny _ _ (match Builtin.Slice.sliceAdjust none none (-1) (n : Int) with | (lo, hi) => pure (lo, (-1 : Int), Builtin.Slice.slicePlaces lo hi (-1))) _ _ s
  have e : Builtin.Slice.sliceAdjust none none (-1) (n : Int) = ((n : Int) - 1, -1) := by rfl
  rw [e]
  have e2 : Builtin.Slice.slicePlaces ((n : Int) - 1) (-1) (-1) = n := by
    unfold Builtin.Slice.slicePlaces
    simp
    try omega
  show wpAny _ _ (pure ((n : Int) - 1, (-1 : Int), Builtin.Slice.slicePlaces ((n : Int) - 1) (-1) (-1))) _ _ s
  rw [e2]
  exact wpAny_pure h
theorem pick_rev (xs : Array Value) : ((List.range xs.size).filterMap fun (m : Nat) => xs[((xs.size : Int) - 1 + (m : Int) * -1).toNat]?).toArray = xs.toList.reverse.toArray := by
  have e : ((List.range xs.size).filterMap fun (m : Nat) => xs[((xs.size : Int) - 1 + (m : Int) * -1).toNat]?) = (((List.range xs.size).map fun k => xs.size - 1 - k).filterMap fun k => xs[k]?) := by
    rw [List.filterMap_map]
    have e : (fun (m : Nat) => xs[((xs.size : Int) - 1 + (m : Int) * -1).toNat]?) = ((fun k => xs[k]?) ∘ fun k => xs.size - 1 - k) := by
      funext m
      have e : ((xs.size : Int) - 1 + (m : Int) * -1).toNat = xs.size - 1 - m := by omega
      show xs[((xs.size : Int) - 1 + (m : Int) * -1).toNat]? = xs[xs.size - 1 - m]?
      rw [e]
    rw [e]
  rw [e, PySem.W.krv_range, List.filterMap_reverse, PySem.W.krv_all]
theorem getItem_tuple_rev {t sl : Addr} {items : Array Value} {vl vu vs : Value} {Q : Value → Shared → Prop} (ht : IsTup s.heap t items) (hs : s.heap.IsSliceOf sl vl vu vs) (pl : IsPart vl none) (pu : IsPart vu none) (ps : IsPart vs (some (-1)))
    (h : Q (.ref s.heap.objs.size) { s with heap := s.heap.push { cls := .type "tuple", data := .seq items.toList.reverse.toArray } })
    (hsz : items.size ≤ sizeLine) : wpAny (model prog w) A (getItem (.ref t) (.ref sl)) Q E s := by
  have htake : PySem.sizeOk (.seq items.toList.reverse.toArray) := by
    show (items.toList.reverse.toArray).size ≤ sizeLine
    rw [List.size_toArray, List.length_reverse, Array.length_toList]
    exact hsz
  obtain ⟨os, hos, hcs, hds⟩ := id hs
  have hTs : s.TypeIs (.ref sl) "slice" := ⟨os, hos, hcs⟩
  unfold getItem
  try with_reducible refine wpAny_holding ?_
  first | refine wpAny_bind (wpAny_pure ?_) | skip
  refine wpAny_bind (wpAny_sequenceKey ht.typeIs (by decide) ?_)
  refine wpAny_bind (wpAny_callSpecial?_slot (name := Str.ofString "__getitem__") ht.typeIs PyProof.Rows.slot_tuple_getitem
    (wpAny_call_entry PyProof.Rows.slot_tuple_getitem ht.typeIs entry_tuple_getitem ?_ (args_tuple_getitem _ _)))
  show wpAny _ _ (Builtin.Tuple.tupleItemsOf (.ref t) >>= _) _ _ s
  refine wpAny_bind (tupleItemsOf_ ht ?_)
  refine wpAny_bind (wpAny_typeOf hTs ?_)
  rw [if_pos (by decide)]
  refine wpAny_bind (sliceApplied_rev hs pl pu ps ?_)
  have hno : ¬ ((((items.size : Int) - 1) == 0 && (-1 : Int) == 1 && items.size == items.size) = true) := by
    intro q
    rw [Bool.and_eq_true, Bool.and_eq_true] at q
    exact absurd q.1.2 (by decide)
  show wpAny _ _ (if (((items.size : Int) - 1) == 0 && (-1 : Int) == 1 && items.size == items.size) = true then _ else _) _ _ s
  rw [if_neg hno, pick_rev]
  first
    | exact wpAny_bind (m := Builtin.Tuple.tupleExact _) (wpAny_newObj_type (wpAny_pure ⟨_, rfl, wpAny_pure h⟩) htake)
    | exact wpAny_bind (m := Builtin.Tuple.tupleExact _) (wpAny_newObj_type (wpAny_bind (wpAny_pure (wpAny_pure ⟨_, rfl, wpAny_pure h⟩))) htake)
    | exact wpAny_bind (wpAny_bind (m := Builtin.Tuple.tupleExact _) (wpAny_newObj_type (wpAny_pure (wpAny_pure ⟨_, rfl, wpAny_pure h⟩)) htake))
    | exact wpAny_bind (wpAny_bind (m := Builtin.Tuple.tupleExact _) (wpAny_newObj_type (wpAny_pure ⟨_, rfl, wpAny_pure h⟩) htake))
end
section
variable {X : Cx}
def tRevA (K : PySem.W.Frag) (te : TE) : TE := fun σ H Q => te σ H fun x H1 => ∃ a xs, x = .ref a ∧ ((SqL K H1 a xs ∧ ∀ p, H1 p = none → Q (.ref p) (upd H1 p (.lst xs.reverse))) ∨ (SqT K H1 a xs ∧ ∀ p, H1 p = none → Q (.ref p) (upd H1 p (.tup xs.reverse))))
theorem pe_revA {e : Expr} {te : TE} {k : Nat} {p1 p2 p3 pos : Pos} (he : PE X e te) : PE X (.Subscript e (.Slice none none (some (.UnaryOp .USub (.Constant (.int 1) k p1) p2)) p3) pos) (tRevA X.K te) := by
  refine ⟨fun pins s σ H Q I h => ?_⟩
  refine Subscript_ (thn (he.run pins s σ H _ I h) fun v s1 ⟨x, H1, I1, r1, q1⟩ => ?_)
  obtain ⟨a, xs, ex, q⟩ := q1
  subst ex
  cases r1
  have hst : PO X (some (.UnaryOp .USub (.Constant (.int 1) k p1) p2)) (tPart (tUn (rU fun i => .int (-i)) (tC (.int 1)))) := po_some (pe_un un_neg pe_int)
  refine wpAny_Slice (thn (po_none.run pins s1 σ H1 (fun o H2 => o = none ∧ H2 = H1) I1 ⟨rfl, rfl⟩) fun vl s2 ⟨l, H2, I2, pl, el, e2⟩ => ?_)
  subst el e2
  refine thn (po_none.run pins s2 σ H2 (fun o H3 => o = none ∧ H3 = H2) I2 ⟨rfl, rfl⟩) fun vu s3 ⟨u, H3, I3, pu, eu, e3⟩ => ?_
  subst eu e3
  refine thn (hst.run pins s3 σ H3 (fun o H4 => o = some (-1) ∧ H4 = H3) I3 ⟨1, rfl, -1, rfl, rfl, rfl⟩) fun vs s4 ⟨o, H4, I4, ps, eo, e4⟩ => ?_
  subst eo e4
  have I5 : Inv X pins σ H4 { s4 with heap := s4.heap.push { cls := .type "slice", data := .fields #[vl, vu, vs] } } := I4.kept (t' := s4.toks) fun b ob q => Heap.get?_push_of_some _ q
  show wpAny (model X.prog X.w) X.A (subscriptTail e (.Slice none none (some (.UnaryOp .USub (.Constant (.int 1) k p1) p2)) p3) (.ref a) (.ref s4.heap.objs.size)) (EP X pins σ Q) X.xe { s4 with heap := s4.heap.push { cls := .type "slice", data := .fields #[vl, vu, vs] } }
  rcases q with ⟨hx, q⟩ | ⟨hx, q⟩
  · obtain ⟨its, r, ht, hz⟩ := I5.list hx
    have hlen := r.length
    refine tail_any (ops := [.ref a, .ref s4.heap.objs.size]) ht.isList.typeIs (PySem.slot_list_getitem.lookup) ?_ (by with_unfolding_all rfl)
    refine wpAny_getItem_list_slice ht.isList (Heap.IsSliceOf.new _ vl vu vs) pl pu ps (by decide) ?_ (by rw [List.size_toArray]; omega)
    rw [PySem.W.krv_pick]
    refine ⟨.ref _, _, I5.laid (t' := s4.toks) (o := .lst xs.reverse) (fun b ob q => Heap.get?_push_of_some _ q) (Nat.le_refl _) ?_, rfl, q _ (I5.hok.fresh (Nat.le_refl _))⟩
    exact ⟨by rw [List.length_reverse]; exact hz, _, 0, r.reverse, Heap.get?_push_size _ rfl⟩
  · obtain ⟨its, r, ht, hz⟩ := I5.tuple hx
    have hlen := r.length
    refine tail_any (ops := [.ref a, .ref s4.heap.objs.size]) ht.typeIs (PyProof.Rows.slot_tuple_getitem.lookup) ?_ (by with_unfolding_all rfl)
    refine getItem_tuple_rev ht (Heap.IsSliceOf.new _ vl vu vs) pl pu ps ?_ (by rw [List.size_toArray]; omega)
    refine ⟨.ref _, _, I5.laid (t' := s4.toks) (o := .tup xs.reverse) (fun b ob q => Heap.get?_push_of_some _ q) (Nat.le_refl _) ?_, rfl, q _ (I5.hok.fresh (Nat.le_refl _))⟩
    exact ⟨by rw [List.length_reverse]; exact hz, _, r.reverse, IsTup.new _ _⟩
end
end Co
set_option Elab.async false
set_option linter.all false
set_option maxRecDepth 100000
set_option maxHeartbeats 4000000
namespace Co
open PySem PySem.Spec PyProof.Rows L2 HotX L2H
theorem newEnumB {v : Value} {ob : Obj} {HH : Heap → Prop} (B : Begins v ob HH) :
    Meets (Builtin.«enumerate.__new__» ⟨[.type "enumerate", v], []⟩) (fun _ R s0 => HH s0.heap ∧ R (.ok (.ret (.ref (s0.heap.push ob).objs.size)))
      { s0 with heap := (s0.heap.push ob).push { cls := .type "enumerate", data := .fields #[.none, .bool false, .ref s0.heap.objs.size, rawInt 0, .none, .none] } }) :=
  .of_wp fun prog w A R s0 hyp => by
    obtain ⟨hp, g, d, tk, os⟩ := s0
    obtain ⟨b1, b2⟩ := hyp
    have hsub := sub_enumerate
    have it1 : ∀ {A' : Around} {E Q : Value → Shared → Prop}, Q (.ref hp.objs.size) ⟨hp.push ob, g, d, tk, os⟩ → wpAny (model prog w) A' (pyIter v) Q E ⟨hp, g, d, tk, os⟩ :=
      fun z => B.iter prog w _ _ ⟨hp, g, d, tk, os⟩ _ b1 z
    wp_walk using it1
    refine wpAny_stack_any fun st => wpAny_pure ?_
    split
    · rename_i c _ _ _ _ _
      cases (c == Value.type "enumerate")
      · wp_walk using it1
        exact ⟨_, rfl, b2⟩
      · wp_walk using it1
        exact ⟨_, rfl, b2⟩
    · wp_walk using it1
      exact ⟨_, rfl, b2⟩
section
variable {prog : Program} {w : World} {A : Around} {E : Value → Shared → Prop} {s : Shared}
theorem callEnumB {v : Value} {ob : Obj} {HH : Heap → Prop} {Q : Value → Shared → Prop} (B : Begins v ob HH) (b1 : HH s.heap)
    (fin : ∀ hN, IsEnum hN (s.heap.objs.size + 1) s.heap.objs.size 0 .none → hN.get? s.heap.objs.size = some ob →
      (∀ b q, s.heap.get? b = some q → hN.get? b = some q) → Q (.ref (s.heap.objs.size + 1)) { s with heap := hN }) :
    wpAny (model prog w) A (call (.type "enumerate") [v]) Q E s := by
  refine callType_new F.called_enumerate (by decide) (F.typeCall_enumerate_1 _) (F.newCall_enumerate_1 _) (fun z => F.args_object_init_2 z _) F.entry_enumerate_new (newEnumB B) ⟨b1, ?_⟩
  have sz : (s.heap.push ob).objs.size = s.heap.objs.size + 1 := Heap.size_push ..
  show _ ∧ _
  rw [sz]
  have en : IsEnum ((s.heap.push ob).push { cls := .type "enumerate", data := .fields #[.none, .bool false, .ref s.heap.objs.size, rawInt 0, .none, .none] }) (s.heap.objs.size + 1) s.heap.objs.size 0 .none := by
    have z := Heap.get?_push_size (s.heap.push ob) (o := { cls := .type "enumerate", data := .fields #[.none, .bool false, .ref s.heap.objs.size, rawInt 0, .none, .none] }) rfl
    rw [sz] at z
    exact z
  exact ⟨⟨_, en, rfl⟩, fin _ en (Heap.get?_push_of_some _ (Heap.get?_push_size _ B.free)) fun b q z => Heap.get?_push_of_some _ (Heap.get?_push_of_some _ z)⟩
end
theorem drawsT {prog : Program} {w : World} {A : Around} (hh : A.handled = none) (it t : Addr) (hne : t ≠ it) (items : Array Value) (m : Nat) :
    Draws prog w A it [it, t] items.size (fun i v => items[i]? = some v) (fun i h => ∃ j, h.IsTupleIter it t j ∧ h.IsTuple t items ∧ (j = i ∨ (items.size ≤ i ∧ items.size ≤ j ∧ j = m))) where
  live := fun _ _ ⟨_, st, _⟩ => let ⟨o, ho, _⟩ := st; ⟨o, ho⟩
  frame := fun _ _ _ ⟨j, s1, s2, s3⟩ hk => ⟨j, s1.at fun o e => hk it (by simp) o e, s2.at fun o e => hk t (by simp) o e, s3⟩
  item := fun i s Q E hi ⟨j, s1, s2, s3⟩ hQ => by
    have : j = i := by omega
    subst this
    refine wpAny_nextOf_tuple_item s1 s2 (x := items[j]) (by simp [hi]) fun hN st2 sm => ?_
    exact hQ _ hN s.toks (by simp [hi]) ⟨_, st2, s2.extBut sm.extBut hne, .inl rfl⟩ sm
  done := fun s Q E ⟨j, s1, s2, s3⟩ hE => wpAny_nextOf_tuple_end hh s1 s2 (by simp; omega) hE
def ItT (K : PySem.W.Frag) (a : Addr) : It :=
  ⟨fun i H => ∃ (ys : List V) (y : V), SqT K H a ys ∧ ys[i]? = some y, fun i H u H' => ∃ T y, u = .ref T ∧ H T = none ∧ H' = upd H T (.tup [.int (i : Nat), y]) ∧ ∀ ys, SqT K H a ys → ys[i]? = some y, fun i H => ∃ ys : List V, SqT K H a ys ∧ ys.length ≤ i⟩
theorem turnEnumT {P : Program} {w : World} {K : PySem.W.Frag} {elts : List Expr} {kk : Nat} {tpos : Pos} (a e it : Addr) :
    Turn P w K (.Tuple elts kk tpos) (ItT K a) [e, it] e (fun i h => (∃ old, IsEnum h e it ((i : Nat) : Int) old) ∧ h.IsTupleIter it a i ∧ e ≠ it) where
  mem := by simp
  obj := fun i h st b hb => by
    obtain ⟨⟨old, he⟩, ⟨o, ho, hc, hd⟩, _⟩ := st
    rcases (show b = e ∨ b = it by simpa using hb) with rfl | rfl
    · exact ⟨_, he, fun v q => nomatch q⟩
    · exact ⟨o, ho, fun v q => by rw [hd] at q; cases q⟩
  keep := fun i h h' st k => let ⟨⟨old, he⟩, hi, hne⟩ := st
    ⟨⟨old, k e (by simp) _ he⟩, hi.at fun o q => k it (by simp) o q, hne⟩
  item := by
    intro X hP hw hK hc i pins s σ H E I hf st hg
    subst hP hw hK
    obtain ⟨⟨old, he⟩, hit, hne⟩ := st
    obtain ⟨ys, y, hq, hy⟩ := hg
    obtain ⟨its, rv, tp, hz⟩ := I.tuple hq
    obtain ⟨u, hu, ru⟩ := rv.get hy
    have el : e < s.heap.objs.size := Heap.lt_size he
    have il : it < s.heap.objs.size := by obtain ⟨_, q, _⟩ := hit; exact Heap.lt_size q
    have n1 : a ≠ it := by
      rintro rfl
      obtain ⟨o1, q1, c1, _⟩ := hit
      obtain ⟨o2, q2, c2, _⟩ := tp
      rw [q1] at q2
      cases q2
      rw [c1] at c2
      exact absurd c2 (by decide)
    have n2 : e ≠ a := by
      rintro rfl
      obtain ⟨o2, q2, c2, _⟩ := tp
      rw [he] at q2
      cases q2
      exact absurd (show Value.type "enumerate" = Value.type "tuple" from c2) (by decide)
    have lt : i < its.toArray.size := by
      have := (List.getElem?_eq_some_iff.mp hu).1
      simpa using this
    refine wpAny_pyNext_enum_itemC (drawsT (A := X.A.in1) (I.ok.hd hc) it a n1 its.toArray (i + 1)) he ⟨i, hit, tp, .inl rfl⟩ lt hne (by simp [hne, n2]) fun u' h' tk hP ho st' hT hsz hk => ?_
    have : u' = u := by
      have hP : its.toArray[i]? = some u' := hP
      simp at hP
      rw [hu] at hP
      exact (Option.some.inj hP).symm
    subst this
    obtain ⟨jn, stn, -, jo⟩ := st'
    have : jn = i + 1 := by
      rcases jo with z | ⟨_, _, z⟩
      · exact z
      · exact z
    subst this
    refine ⟨_, rfl, wpAny_letOwnedTupleGo_enum (s := { s with heap := h', toks := tk + 1 }) ho fun h'' he' sb => ?_⟩
    have g2 : h''.get? s.heap.objs.size = some { cls := .type "tuple", data := .seq #[.int i tk, u'] } := (sb.2 _ (Nat.ne_of_gt el)).trans hT
    have new : ObjOk X.prog X.w (upd H s.heap.objs.size (.tup [.int (i : Nat), y])) h'' s.heap.objs.size (.tup [.int (i : Nat), y]) :=
      ⟨by show 2 ≤ sizeLine; decide, [.int i tk, u'], .cons ⟨_, rfl⟩ (.cons ru .nil), ⟨_, g2, rfl, _, rfl⟩⟩
    have I1 : Inv X pins σ (upd H s.heap.objs.size (.tup [.int (i : Nat), y])) { s with heap := h'', toks := tk + 1 } :=
      I.turnedNew (ch := [e, it]) (fun b ob hb q => (sb.2 b (fun z => hb (by simp [z]))).trans (hk b ob (fun z => hb (by simp [z])) (fun z => hb (by simp [z])) q)) hf (Nat.le_refl _) new
    refine ⟨.ref s.heap.objs.size, _, I1, rfl, ⟨_, y, rfl, I.hok.fresh (Nat.le_refl _), rfl, fun zs hzs => by rw [I.tuple_inj hzs hq]; exact hy⟩, ⟨⟨u', ?_⟩, stn.at fun o q => (sb.2 it (Ne.symm hne)).trans q, hne⟩, fun b hb => ?_⟩
    · rw [show ((i + 1 : Nat) : Int) = (i : Int) + 1 by omega]
      exact he'
    · have lb : b < s.heap.objs.size := by
        rcases (show b = e ∨ b = it by simpa using hb) with rfl | rfl
        · exact el
        · exact il
      rw [upd_ne (Nat.ne_of_lt lb)]
      exact (hf b hb).1
  done := by
    intro X hP hw hK hc i pins s σ H E I hf st hg
    subst hP hw hK
    obtain ⟨⟨old, he⟩, hit, hne⟩ := st
    obtain ⟨ys, hq, hy⟩ := hg
    obtain ⟨its, rv, tp, hz⟩ := I.tuple hq
    obtain ⟨f0, f1, f2, f3, f4, f5⟩ := hf it (by simp)
    have hl := rv.length
    have n1 : a ≠ it := by
      rintro rfl
      obtain ⟨o1, q1, c1, _⟩ := hit
      obtain ⟨o2, q2, c2, _⟩ := tp
      rw [q1] at q2
      cases q2
      rw [c1] at c2
      exact absurd c2 (by decide)
    exact wpAny_pyNext_enum_endD (drawsT (A := X.A.in1) (I.ok.hd hc) it a n1 its.toArray i) he ⟨i, hit, tp, .inr ⟨Nat.le_refl _, by simp; omega, rfl⟩⟩ fun h' eb => ⟨rfl, I.turned (t' := s.toks) (fun b o hb q => eb b o hb q) f0 f1 f3 f4 f5⟩
  self := fun A i s Q E st h => let ⟨⟨_, he⟩, _⟩ := st
    wpAny_pyIter_enum he h
def iEnumA (K : PySem.W.Frag) (ta : TA) : TI := fun σ H R => ta σ H fun vs H1 => ∃ a ys, vs = [.ref a] ∧ ((SqL K H1 a ys ∧ R (Ite K a) H1) ∨ (SqT K H1 a ys ∧ R (ItT K a) H1))
theorem fp_new {X : Cx} {pins : List (Addr × Obj)} {σ : L2.St} {H : Hp} {s : Shared} (I : Inv X pins σ H s) : ∀ b ∈ [s.heap.objs.size + 1, s.heap.objs.size], s.heap.objs.size ≤ b := fun b hb => by
  rcases (show b = s.heap.objs.size + 1 ∨ b = s.heap.objs.size by simpa using hb) with z | z
  · rw [z]; exact Nat.le_add_right _ _
  · rw [z]; exact Nat.le_refl _
theorem pi_enumA {X : Cx} {e : Expr} {ta : TA} {p pos tpos : Pos} {elts : List Expr} {kk : Nat} (hg : Gl X "enumerate") (hm : X.mg "enumerate" = none) (ha : PA X [e] ta) (hs : starEach [e] X.env = [(false, eval e X.env)]) :
    PI X (.Tuple elts kk tpos) (.Call (.Name "enumerate" p) [e] [] pos) (iEnumA X.K ta) := by
  refine ⟨fun pins s σ H R I hyp => ?_⟩
  refine Call_ (ld_blt I hg hm boot_enumerate (PyProof.Rows.callWith_type1 (thn (ha.run pos pins s σ H _ I hyp) fun us s1 ⟨vs, H1, I1, r1, q1⟩ => ?_) hs rfl))
  obtain ⟨a, ys, ex, hq⟩ := q1
  subst ex
  cases r1 with
  | cons r rr =>
    cases rr
    cases r
    rcases hq with ⟨hq, q⟩ | ⟨hq, q⟩
    · obtain ⟨its, rv, pl, hz⟩ := I1.list hq
      refine call_enumerate_list pl.isList fun hN he hit hsz hk => wpAny_pyIter_enum he ?_
      have I2 : Inv X pins σ H1 { s1 with heap := hN } := I1.kept (t' := s1.toks) hk
      exact ⟨s1.heap.objs.size + 1, [s1.heap.objs.size + 1, s1.heap.objs.size], _, _, H1, rfl, I2, turn_enum a (s1.heap.objs.size + 1) s1.heap.objs.size, ⟨⟨.none, he⟩, hit, Nat.succ_ne_self _⟩,
        fun b hb => I1.fpOk (fp_new I1 b hb) (I1.hok.fresh (fp_new I1 b hb)), q⟩
    · obtain ⟨its, rv, tp, hz⟩ := I1.tuple hq
      refine callEnumB (begins_tuple a its.toArray) tp fun hN he hit hk => wpAny_pyIter_enum he ?_
      have I2 : Inv X pins σ H1 { s1 with heap := hN } := I1.kept (t' := s1.toks) hk
      exact ⟨s1.heap.objs.size + 1, [s1.heap.objs.size + 1, s1.heap.objs.size], _, _, H1, rfl, I2, turnEnumT a (s1.heap.objs.size + 1) s1.heap.objs.size, ⟨⟨.none, he⟩, ⟨_, hit, rfl, rfl⟩, Nat.succ_ne_self _⟩,
        fun b hb => I1.fpOk (fp_new I1 b hb) (I1.hok.fresh (fp_new I1 b hb)), q⟩
end Co
set_option Elab.async false
set_option linter.all false
set_option maxRecDepth 100000
set_option maxHeartbeats 4000000
namespace Co
open PySem PySem.Spec PyProof.Rows L2 HotX L2H
def SqK (t : Bool) (K : PySem.W.Frag) (H : Hp) (a : Addr) (xs : List V) : Prop := match t with
  | false => SqL K H a xs
  | true => SqT K H a xs
def itK (t : Bool) (h : Heap) (it a : Addr) (j : Nat) : Prop := match t with
  | false => h.IsListIter it a j
  | true => h.IsTupleIter it a j
def sqK (t : Bool) (h : Heap) (a : Addr) (items : Array Value) : Prop := match t with
  | false => h.IsList a items
  | true => h.IsTuple a items
def itO (t : Bool) (a : Addr) : Obj := match t with
  | false => { cls := .type "list_iterator", data := .fields #[.ref a, .int 0 0] }
  | true => { cls := .type "tuple_iterator", data := .fields #[.ref a, .int 0 0] }
theorem beginsK (t : Bool) (a : Addr) (items : Array Value) : Begins (.ref a) (itO t a) (fun h => sqK t h a items) := by
  cases t
  · exact begins_list a items
  · exact begins_tuple a items
theorem itK_new {t : Bool} {h : Heap} {it a : Addr} (e : h.get? it = some (itO t a)) : itK t h it a 0 := by
  cases t
  · exact ⟨_, e, rfl, rfl⟩
  · exact ⟨_, e, rfl, rfl⟩
theorem inv_sqK {X : Cx} {pins : List (Addr × Obj)} {σ : L2.St} {H : Hp} {s : Shared} {t : Bool} {a : Addr} {xs : List V} (I : Inv X pins σ H s) (h : SqK t X.K H a xs) : ∃ its : List Value, Vals xs its ∧ sqK t s.heap a its.toArray := by
  cases t
  · obtain ⟨its, rv, p, _⟩ := I.list h
    exact ⟨its, rv, p.isList⟩
  · obtain ⟨its, rv, p, _⟩ := I.tuple h
    exact ⟨its, rv, p⟩
theorem inv_injK {X : Cx} {pins : List (Addr × Obj)} {σ : L2.St} {H : Hp} {s : Shared} {t : Bool} {a : Addr} {xs ys : List V} (I : Inv X pins σ H s) (h : SqK t X.K H a xs) (h2 : SqK t X.K H a ys) : xs = ys := by
  cases t
  · exact I.list_inj h h2
  · exact I.tuple_inj h h2
theorem drawsK {prog : Program} {w : World} {A : Around} (t : Bool) (hh : A.handled = none) (it a : Addr) (hne : a ≠ it) (items : Array Value) :
    Draws prog w A it [it, a] items.size (fun i v => items[i]? = some v) (fun i h => itK t h it a i ∧ sqK t h a items) := by
  cases t
  · exact Draws.list hh it a hne items
  · exact Draws.tuple hh it a hne items
theorem drawsEndK {prog : Program} {w : World} {A : Around} (t : Bool) (hh : A.handled = none) (it a : Addr) (items : Array Value) (n j : Nat) (hj : items.size ≤ j) :
    Draws prog w A it [it, a] n (fun i v => items[i]? = some v) (fun i h => i = n ∧ itK t h it a j ∧ sqK t h a items) where
  live := fun _ h st => by
    cases t
    · obtain ⟨_, ⟨o, ho, _⟩, _⟩ := st
      exact ⟨o, ho⟩
    · obtain ⟨_, ⟨o, ho, _⟩, _⟩ := st
      exact ⟨o, ho⟩
  frame := fun _ _ _ st hk => by
    cases t
    · exact ⟨st.1, Heap.IsListIter.at st.2.1 fun o e => hk it (by simp) o e, Heap.IsList.at st.2.2 fun o e => hk a (by simp) o e⟩
    · exact ⟨st.1, Heap.IsTupleIter.at st.2.1 fun o e => hk it (by simp) o e, Heap.IsTuple.at st.2.2 fun o e => hk a (by simp) o e⟩
  item := fun i s Q E hi st hQ => absurd hi (by have := st.1; omega)
  done := fun s Q E st hE => by
    cases t
    · exact wpAny_nextOf_list_end hh st.2.1 st.2.2 (by simp; omega) hE
    · exact wpAny_nextOf_tuple_end hh st.2.1 st.2.2 (by simp; omega) hE
def ItzK (t u : Bool) (K : PySem.W.Frag) (a b : Addr) : It :=
  ⟨fun i H => ∃ (xs ys : List V) (x y : V), SqK t K H a xs ∧ SqK u K H b ys ∧ xs[i]? = some x ∧ ys[i]? = some y,
    fun i H v H' => ∃ T x y, v = .ref T ∧ H T = none ∧ H' = upd H T (.tup [x, y]) ∧ (∀ xs, SqK t K H a xs → xs[i]? = some x) ∧ ∀ ys, SqK u K H b ys → ys[i]? = some y,
    fun i H => ∃ xs ys : List V, SqK t K H a xs ∧ SqK u K H b ys ∧ (xs.length ≤ i ∨ ys.length ≤ i)⟩
theorem itK_obj {t : Bool} {h : Heap} {it a : Addr} {j : Nat} (e : itK t h it a j) : ∃ o, h.get? it = some o ∧ ∀ v, o.data ≠ .cell v := by
  cases t
  · obtain ⟨o, e1, _, d⟩ := e
    exact ⟨o, e1, fun v q => by rw [d] at q; cases q⟩
  · obtain ⟨o, e1, _, d⟩ := e
    exact ⟨o, e1, fun v q => by rw [d] at q; cases q⟩
theorem itK_at {t : Bool} {h h' : Heap} {it a : Addr} {j : Nat} (e : itK t h it a j) (k : ∀ o, h.get? it = some o → h'.get? it = some o) : itK t h' it a j := by
  cases t
  · exact Heap.IsListIter.at e k
  · exact Heap.IsTupleIter.at e k
theorem apartK {t : Bool} {h : Heap} {a it b : Addr} {items : Array Value} {j : Nat} (p : sqK t h a items) (e : itK t h it b j) : a ≠ it := by
  rintro rfl
  cases t
  · obtain ⟨o, q1, c1, _⟩ := p
    obtain ⟨o2, q2, c2, _⟩ := e
    rw [q1] at q2
    cases q2
    rw [c1] at c2
    exact absurd c2 (by decide)
  · obtain ⟨o, q1, c1, _⟩ := p
    obtain ⟨o2, q2, c2, _⟩ := e
    rw [q1] at q2
    cases q2
    rw [c1] at c2
    exact absurd c2 (by decide)
theorem turnZipK {P : Program} {w : World} {K : PySem.W.Frag} {elts : List Expr} {kk : Nat} {tpos : Pos} {a b z TI TO i1 i2 : Addr} (t u : Bool) (D : ZipSep2 z TI TO i1 i2 [i1, a] [i2, b]) :
    Turn P w K (.Tuple elts kk tpos) (ItzK t u K a b) [z, TI, TO, i1, i2] z (fun i h => IsZip h z TI TO .none ∧ IsPair h TI (.ref i1) (.ref i2) ∧ (∃ x y, IsPair h TO x y) ∧ itK t h i1 a i ∧ itK u h i2 b i) where
  mem := by simp
  obj := fun i h st c hc => by
    obtain ⟨hz, hTI, ⟨x, y, hTO⟩, e1, e2⟩ := st
    rcases (show c = z ∨ c = TI ∨ c = TO ∨ c = i1 ∨ c = i2 by simpa using hc) with q | q | q | q | q
    · rw [q]; exact ⟨_, hz, fun v q => nomatch q⟩
    · rw [q]; exact ⟨_, hTI, fun v q => nomatch q⟩
    · rw [q]; exact ⟨_, hTO, fun v q => nomatch q⟩
    · rw [q]; exact itK_obj e1
    · rw [q]; exact itK_obj e2
  keep := fun i h h' st k => by
    obtain ⟨hz, hTI, ⟨x, y, hTO⟩, e1, e2⟩ := st
    exact ⟨k z (by simp) _ hz, k TI (by simp) _ hTI, ⟨x, y, k TO (by simp) _ hTO⟩, itK_at e1 fun o q => k i1 (by simp) o q, itK_at e2 fun o q => k i2 (by simp) o q⟩
  item := by
    intro X hP hw hK hc i pins s σ H E I hf st hg
    subst hP hw hK
    obtain ⟨hz, hTI, ⟨x0, y0, hTO⟩, e1, e2⟩ := st
    obtain ⟨xs, ys, x, y, hqx, hqy, hx, hy⟩ := hg
    obtain ⟨its, rv, p⟩ := inv_sqK I hqx
    obtain ⟨its2, rv2, p2⟩ := inv_sqK I hqy
    obtain ⟨u1, hu, ru⟩ := rv.get hx
    obtain ⟨u2, hu2, ru2⟩ := rv2.get hy
    have hzl : z < s.heap.objs.size := Heap.lt_size hz
    have lt1 : i < its.toArray.size := by simpa using (List.getElem?_eq_some_iff.mp hu).1
    have lt2 : i < its2.toArray.size := by simpa using (List.getElem?_eq_some_iff.mp hu2).1
    have n1 : a ≠ i1 := apartK p e1
    have n2 : b ≠ i2 := apartK p2 e2
    refine wpAny_pyNext_zipD2_item D (drawsK (A := X.A.in1) t (I.ok.hd hc) i1 a n1 its.toArray) (drawsK (A := X.A.in1) u (I.ok.hd hc) i2 b n2 its2.toArray) hz hTI hTO ⟨e1, p⟩ ⟨e2, p2⟩ lt1 lt2 fun x1 x2 h' tk P1 P2 z' TO' s1 s2 hT hsz hk => ?_
    have q1 : x1 = u1 := by
      have P1 : its.toArray[i]? = some x1 := P1
      simp at P1
      rw [hu] at P1
      exact (Option.some.inj P1).symm
    have q2 : x2 = u2 := by
      have P2 : its2.toArray[i]? = some x2 := P2
      simp at P2
      rw [hu2] at P2
      exact (Option.some.inj P2).symm
    subst q1
    subst q2
    refine ⟨_, rfl, wpAny_letOwnedTupleGo_zip (s := { s with heap := h', toks := tk }) z' fun h'' z'' sb => ?_⟩
    have hT2 : h''.get? s.heap.objs.size = some { cls := .type "tuple", data := .seq #[x1, x2] } := (sb.2 _ (Nat.ne_of_gt hzl)).trans hT
    have new : ObjOk X.prog X.w (upd H s.heap.objs.size (.tup [x, y])) h'' s.heap.objs.size (.tup [x, y]) :=
      ⟨by show 2 ≤ sizeLine; decide, [x1, x2], .cons ru (.cons ru2 .nil), ⟨_, hT2, rfl, _, rfl⟩⟩
    have I1 : Inv X pins σ (upd H s.heap.objs.size (.tup [x, y])) { s with heap := h'', toks := tk } :=
      I.turnedNew (ch := [z, TI, TO, i1, i2]) (fun c o hb q => (sb.2 c (fun q' => hb (by simp [q']))).trans (hk c o (fun q' => hb (by simp [q'])) (fun q' => hb (by simp [q'])) (fun q' => hb (by simp [q'])) (fun q' => hb (by simp [q'])) q)) hf (Nat.le_refl _) new
    refine ⟨.ref s.heap.objs.size, _, I1, rfl, ⟨_, x, y, rfl, I.hok.fresh (Nat.le_refl _), rfl, fun l hl => by rw [inv_injK I hl hqx]; exact hx, fun l hl => by rw [inv_injK I hl hqy]; exact hy⟩, ⟨z'', ?_, ⟨x1, x2, ?_⟩, ?_, ?_⟩, fun c hcm => ?_⟩
    · exact (sb.2 _ D.TIz).trans (hk _ _ D.TIz D.TITO D.TIi1 D.TIi2 hTI)
    · exact (sb.2 _ D.TOz).trans TO'
    · exact itK_at s1.1 fun o q => (sb.2 _ (Ne.symm D.zi1)).trans q
    · exact itK_at s2.1 fun o q => (sb.2 _ (Ne.symm D.zi2)).trans q
    · have hlt : c < s.heap.objs.size := by
        rcases (show c = z ∨ c = TI ∨ c = TO ∨ c = i1 ∨ c = i2 by simpa using hcm) with q | q | q | q | q
        · rw [q]; exact hzl
        · rw [q]; exact Heap.lt_size hTI
        · rw [q]; exact Heap.lt_size hTO
        · rw [q]; obtain ⟨_, e, _⟩ := itK_obj e1; exact Heap.lt_size e
        · rw [q]; obtain ⟨_, e, _⟩ := itK_obj e2; exact Heap.lt_size e
      rw [upd_ne (Nat.ne_of_lt hlt)]
      exact (hf c hcm).1
  done := by
    intro X hP hw hK hc i pins s σ H E I hf st hg
    subst hP hw hK
    obtain ⟨hz, hTI, ⟨x0, y0, hTO⟩, e1, e2⟩ := st
    obtain ⟨xs, ys, hqx, hqy, hend⟩ := hg
    obtain ⟨its, rv, p⟩ := inv_sqK I hqx
    obtain ⟨its2, rv2, p2⟩ := inv_sqK I hqy
    have l1 := rv.length
    have l2 := rv2.length
    have fin : ∀ {h' : Heap} {tk : Nat}, (∀ c o, c ≠ z → c ≠ TO → c ≠ i1 → c ≠ i2 → s.heap.get? c = some o → h'.get? c = some o) → _ := fun {h' tk} hk => I.turnedL (t' := tk) (ch := [z, TI, TO, i1, i2]) (s := s) (h' := h') (fun c o hb q =>
      hk c o (fun q' => hb (by simp [q'])) (fun q' => hb (by simp [q'])) (fun q' => hb (by simp [q'])) (fun q' => hb (by simp [q'])) q) hf
    have hd : X.A.in1.handled = none := I.ok.hd hc
    by_cases c1 : its.toArray.size ≤ i
    · by_cases c2 : its2.toArray.size ≤ i
      · exact wpAny_pyNext_zipD2_end D (drawsEndK t hd i1 a its.toArray i i c1) (drawsEndK u hd i2 b its2.toArray i i c2) hz hTI hTO ⟨rfl, e1, p⟩ ⟨rfl, e2, p2⟩ (Nat.le_refl _) (Nat.le_refl _) (.inl rfl) fun h' tk hk => ⟨rfl, fin hk⟩
      · exact wpAny_pyNext_zipD2_end D (drawsEndK t hd i1 a its.toArray i i c1) (drawsK u hd i2 b (apartK p2 e2) its2.toArray) hz hTI hTO ⟨rfl, e1, p⟩ ⟨e2, p2⟩ (Nat.le_refl _) (by omega) (.inl rfl) fun h' tk hk => ⟨rfl, fin hk⟩
    · have c2 : its2.toArray.size ≤ i := by
        rcases hend with q | q
        · exact absurd (by simpa using (by omega : its.length ≤ i)) c1
        · simp; omega
      exact wpAny_pyNext_zipD2_end D (drawsK t hd i1 a (apartK p e1) its.toArray) (drawsEndK u hd i2 b its2.toArray i i c2) hz hTI hTO ⟨e1, p⟩ ⟨rfl, e2, p2⟩ (by omega) (Nat.le_refl _) (.inr rfl) fun h' tk hk => ⟨rfl, fin hk⟩
  self := fun A i s Q E st h => wpAny_pyIter_zip st.1 h
def iZipM (K : PySem.W.Frag) (ta : TA) : TI := fun σ H R => ta σ H fun vs H1 => ∃ t u a b xs ys, vs = [.ref a, .ref b] ∧ SqK t K H1 a xs ∧ SqK u K H1 b ys ∧ R (ItzK t u K a b) H1
theorem sqK_lt {t : Bool} {h : Heap} {a : Addr} {items : Array Value} (p : sqK t h a items) : a < h.objs.size := by
  cases t
  · obtain ⟨o, e, _⟩ := p
    exact Heap.lt_size e
  · obtain ⟨o, e, _⟩ := p
    exact Heap.lt_size e
theorem pi_zipM {X : Cx} {e e2 : Expr} {ta : TA} {p pos tpos : Pos} {elts : List Expr} {kk : Nat} (hg : Gl X "zip") (hm : X.mg "zip" = none) (ha : PA X [e, e2] ta)
    (hs : starEach [e, e2] X.env = (false, eval e X.env) :: starEach [e2] X.env) (hpl : (backTo pos (starEach [e2] X.env)).any (·.1) = false) :
    PI X (.Tuple elts kk tpos) (.Call (.Name "zip" p) [e, e2] [] pos) (iZipM X.K ta) := by
  refine ⟨fun pins s σ H R I hyp => ?_⟩
  refine Call_ (ld_blt I hg hm PyProof.Rows.boot_zip (PyProof.Rows.callWith_type1 (thn (ha.run pos pins s σ H _ I hyp) fun us s1 ⟨vs, H1, I1, r1, q1⟩ => ?_) hs hpl))
  obtain ⟨t, u, a, b, xs, ys, ex, hqx, hqy, q⟩ := q1
  subst ex
  cases r1 with
  | cons r rr =>
    cases rr with
    | cons r' rr =>
      cases rr
      cases r
      cases r'
      obtain ⟨its, rv, p1⟩ := inv_sqK I1 hqx
      obtain ⟨its2, rv2, p2⟩ := inv_sqK I1 hqy
      have la := sqK_lt p1
      have lb := sqK_lt p2
      have fresh5 : ∀ c, c ∈ [s1.heap.objs.size + 4, s1.heap.objs.size + 2, s1.heap.objs.size + 3, s1.heap.objs.size, s1.heap.objs.size + 1] → FpOk X pins H1 c := fun c hcm => by
        have hle : s1.heap.objs.size ≤ c := by
          simp at hcm
          omega
        exact I1.fpOk hle (I1.hok.fresh hle)
      refine zip_begins2 (beginsK t a its.toArray) (beginsK u b its2.toArray) p1 p2 fun h' hz hTI hTO h1 h2 hsz hk => wpAny_pyIter_zip hz ?_
      have I2 : Inv X pins σ H1 { s1 with heap := h' } := I1.kept (t' := s1.toks) hk
      exact ⟨s1.heap.objs.size + 4, [s1.heap.objs.size + 4, s1.heap.objs.size + 2, s1.heap.objs.size + 3, s1.heap.objs.size, s1.heap.objs.size + 1], _, _, H1, rfl, I2,
        turnZipK t u (zip_sep2 (fp1 := [a]) (fp2 := [b]) (by simpa using la) (by simpa using lb)), ⟨hz, hTI, ⟨_, _, hTO⟩, itK_new h1, itK_new h2⟩, fresh5, q⟩
end Co
set_option Elab.async false
set_option linter.all false
set_option maxRecDepth 100000
set_option maxHeartbeats 4000000
namespace Co
open PySem PySem.Spec PyProof.Rows L2
def SlR (Γ : Mo) (G : Gh) (H : Hp) : Sl → Option V → Prop
  | .un, _ => True
  | .val d, o => ∃ v, o = some v ∧ Rp Γ G H v d
  | .own ds, o => ∃ p xs, o = some (.ref p) ∧ H p = some (.lst xs) ∧ ¬ G.Z p ∧ G.cup ≠ some p ∧ Rps Γ G H xs ds
  | .dic kvs, o => ∃ p xs, o = some (.ref p) ∧ H p = some (.dT xs) ∧ Rks Γ G H xs kvs ∧ (kvs.map (·.1)).Nodup
structure ER (Γ : Mo) (G : Gh) (H : Hp) (env : En) (σ : L2.St) : Prop where
  len : env.length = σ.length
  at_ : ∀ i sl, env[i]? = some sl → SlR Γ G H sl (σ.getD i none)
  inj : ∀ i j p sl sl', env[i]? = some sl → env[j]? = some sl' → sl.mine = true → sl'.mine = true → σ.getD i none = some (.ref p) → σ.getD j none = some (.ref p) → i = j
section
variable {Γ : Mo} {G G' G1 : Gh} {H H' H1 : Hp} {s s' s1 : St2} {env : En} {σ : L2.St} {d : D}
theorem SlR.grow (k : SOk Γ G H s) (g : Grow G H G' H') : ∀ {sl : Sl} {o : Option V}, SlR Γ G H sl o → SlR Γ G' H' sl o
  | .un, _, h => trivial
  | .val d, o, ⟨v, e, r⟩ => ⟨v, e, r.grow k g⟩
  | .own ds, o, ⟨p, xs, e, hp, nz, nc, r⟩ => ⟨p, xs, e, g.keep p _ hp nc (fun _ z => nomatch z), fun z => (g.nz p z).elim nz (fun e2 => by rw [hp] at e2; cases e2), fun z => (g.ncup p z).elim nc (fun e2 => by rw [hp] at e2; cases e2), r.grow k g⟩
  | .dic kvs, o, ⟨p, xs, e, hp, r, nd⟩ => ⟨p, xs, e, g.keep p _ hp (k.nc hp fun _ z => nomatch z) (fun _ z => nomatch z), r.imp fun _ _ h => h.grow k g, nd⟩
theorem ER.grow (k : SOk Γ G H s) (g : Grow G H G' H') (e : ER Γ G H env σ) : ER Γ G' H' env σ :=
  ⟨e.len, fun i sl h => (e.at_ i sl h).grow k g, e.inj⟩
theorem ER.get (e : ER Γ G H env σ) {i : Nat} (h : env.get i = some d) : ∃ v, σ[i]? = some (some v) ∧ Rp Γ G H v d := by
  unfold En.get at h
  cases q : env[i]? with
  | none => rw [q] at h; cases h
  | some sl =>
    rw [q] at h
    cases sl with
    | val d' =>
      cases h
      obtain ⟨v, e1, r⟩ := e.at_ i _ q
      refine ⟨v, ?_, r⟩
      have hi : i < σ.length := by rw [← e.len]; exact (List.getElem?_eq_some_iff.mp q).1
      rw [List.getD_eq_getElem?_getD, List.getElem?_eq_getElem hi, Option.getD_some] at e1
      rw [List.getElem?_eq_getElem hi, e1]
    | un => cases h
    | own _ => cases h
    | dic _ => cases h
theorem ER.own (e : ER Γ G H env σ) {i : Nat} {ds : List D} (h : env.own i = some ds) : ∃ p xs, σ[i]? = some (some (.ref p)) ∧ H p = some (.lst xs) ∧ ¬ G.Z p ∧ G.cup ≠ some p ∧ Rps Γ G H xs ds ∧ env[i]? = some (.own ds) := by
  unfold En.own at h
  cases q : env[i]? with
  | none => rw [q] at h; cases h
  | some sl =>
    rw [q] at h
    cases sl with
    | own d' =>
      cases h
      obtain ⟨p, xs, e1, r1, r2, r3, r4⟩ := e.at_ i _ q
      refine ⟨p, xs, ?_, r1, r2, r3, r4, rfl⟩
      have hi : i < σ.length := by rw [← e.len]; exact (List.getElem?_eq_some_iff.mp q).1
      rw [List.getD_eq_getElem?_getD, List.getElem?_eq_getElem hi, Option.getD_some] at e1
      rw [List.getElem?_eq_getElem hi, e1]
    | un => cases h
    | val _ => cases h
    | dic _ => cases h
theorem ER.dic (e : ER Γ G H env σ) {i : Nat} {kvs : List (List L2.Key × D)} (h : env.dic i = some kvs) : ∃ p xs, σ[i]? = some (some (.ref p)) ∧ H p = some (.dT xs) ∧ Rks Γ G H xs kvs ∧ (kvs.map (·.1)).Nodup ∧ env[i]? = some (.dic kvs) := by
  unfold En.dic at h
  cases q : env[i]? with
  | none => rw [q] at h; cases h
  | some sl =>
    rw [q] at h
    cases sl with
    | dic d' =>
      cases h
      obtain ⟨p, xs, e1, r1, r4, r5⟩ := e.at_ i _ q
      refine ⟨p, xs, ?_, r1, r4, r5, rfl⟩
      have hi : i < σ.length := by rw [← e.len]; exact (List.getElem?_eq_some_iff.mp q).1
      rw [List.getD_eq_getElem?_getD, List.getElem?_eq_getElem hi, Option.getD_some] at e1
      rw [List.getElem?_eq_getElem hi, e1]
    | un => cases h
    | val _ => cases h
    | own _ => cases h
theorem getD_set {α : Type} (l : List α) (i j : Nat) (v d : α) (hi : i < l.length) : (l.set i v).getD j d = if j = i then v else l.getD j d := by
  rw [List.getD_eq_getElem?_getD, List.getD_eq_getElem?_getD]
  by_cases h : j = i
  · subst h
    rw [List.getElem?_set_self hi, if_pos rfl]; rfl
  · rw [List.getElem?_set_ne (Ne.symm h), if_neg h]
theorem ER.set (e : ER Γ G H env σ) {i : Nat} {v : V} (r : Rp Γ G H v d) (hi : i < env.length) : ER Γ G H (env.set i (.val d)) (σ.set i (some v)) := by
  have hi2 : i < σ.length := by rw [← e.len]; exact hi
  refine ⟨by simp [e.len], fun j sl h => ?_, fun j l p ds es h1 h2 m1 m2 h3 h4 => ?_⟩
  · rw [getD_set _ _ _ _ _ hi2]
    by_cases hj : j = i
    · subst hj
      rw [List.getElem?_set_self hi] at h
      cases h
      rw [if_pos rfl]
      exact ⟨v, rfl, r⟩
    · rw [List.getElem?_set_ne (Ne.symm hj)] at h
      rw [if_neg hj]
      exact e.at_ j sl h
  · have hj : j ≠ i := fun z => by subst z; rw [List.getElem?_set_self hi] at h1; cases h1; cases m1
    have hl : l ≠ i := fun z => by subst z; rw [List.getElem?_set_self hi] at h2; cases h2; cases m2
    rw [List.getElem?_set_ne (Ne.symm hj)] at h1
    rw [List.getElem?_set_ne (Ne.symm hl)] at h2
    rw [getD_set _ _ _ _ _ hi2, if_neg hj] at h3
    rw [getD_set _ _ _ _ _ hi2, if_neg hl] at h4
    exact e.inj j l p ds es h1 h2 m1 m2 h3 h4
theorem ER.setMine (e : ER Γ G H env σ) {i : Nat} {p : Addr} {m : Sl} (r : SlR Γ G H m (some (.ref p))) (hi : i < env.length)
    (new : ∀ j es, env[j]? = some es → es.mine = true → j ≠ i → σ.getD j none ≠ some (.ref p)) : ER Γ G H (env.set i m) (σ.set i (some (.ref p))) := by
  have hi2 : i < σ.length := by rw [← e.len]; exact hi
  refine ⟨by simp [e.len], fun j sl h => ?_, fun j l q as es h1 h2 m1 m2 h3 h4 => ?_⟩
  · rw [getD_set _ _ _ _ _ hi2]
    by_cases hj : j = i
    · subst hj
      rw [List.getElem?_set_self hi] at h
      cases h
      rw [if_pos rfl]
      exact r
    · rw [List.getElem?_set_ne (Ne.symm hj)] at h
      rw [if_neg hj]
      exact e.at_ j sl h
  · rw [getD_set _ _ _ _ _ hi2] at h3 h4
    by_cases hj : j = i
    · by_cases hl : l = i
      · rw [hj, hl]
      · rw [if_pos hj] at h3
        rw [if_neg hl] at h4
        cases h3
        rw [List.getElem?_set_ne (Ne.symm hl)] at h2
        exact absurd h4 (new l es h2 m2 hl)
    · rw [List.getElem?_set_ne (Ne.symm hj)] at h1
      rw [if_neg hj] at h3
      by_cases hl : l = i
      · rw [if_pos hl] at h4
        cases h4
        exact absurd h3 (new j as h1 m1 hj)
      · rw [List.getElem?_set_ne (Ne.symm hl)] at h2
        rw [if_neg hl] at h4
        exact e.inj j l q as es h1 h2 m1 m2 h3 h4
theorem ER.freeze (e : ER Γ G H env σ) {i : Nat} {p : Addr} {xs : List V} {ds : List D} (hi : env[i]? = some (.own ds)) (hσ : σ[i]? = some (some (.ref p))) (hp : H p = some (.lst xs)) (r : Rps Γ G H xs ds) :
    ER Γ (G.add p) H (env.set i (.val (.lst ds))) σ := by
  have hi1 : i < env.length := (List.getElem?_eq_some_iff.mp hi).1
  have hg : σ.getD i none = some (.ref p) := by rw [List.getD_eq_getElem?_getD, hσ]; rfl
  refine ⟨by simp [e.len], fun j sl h => ?_, fun j l q as es h1 h2 m1 m2 h3 h4 => ?_⟩
  · by_cases hj : j = i
    · subst hj
      rw [List.getElem?_set_self hi1] at h
      cases h
      exact ⟨.ref p, hg, .lst (.inr rfl) hp (r.add p)⟩
    · rw [List.getElem?_set_ne (Ne.symm hj)] at h
      have q := e.at_ j sl h
      cases sl with
      | un => trivial
      | val d => obtain ⟨v, e1, r1⟩ := q; exact ⟨v, e1, r1.add p⟩
      | own es =>
        obtain ⟨p2, ys, e1, e2, e3, e4, e5⟩ := q
        refine ⟨p2, ys, e1, e2, fun z => z.elim e3 fun z => ?_, e4, e5.add p⟩
        subst z
        exact hj (e.inj j i p2 _ _ h hi rfl rfl e1 hg)
      | dic es =>
        obtain ⟨p2, ys, e1, e2, e3, e4⟩ := q
        exact ⟨p2, ys, e1, e2, e3.imp fun _ _ h => h.add p, e4⟩
  · have hj : j ≠ i := fun z => by subst z; rw [List.getElem?_set_self hi1] at h1; cases h1; cases m1
    have hl : l ≠ i := fun z => by subst z; rw [List.getElem?_set_self hi1] at h2; cases h2; cases m2
    rw [List.getElem?_set_ne (Ne.symm hj)] at h1
    rw [List.getElem?_set_ne (Ne.symm hl)] at h2
    exact e.inj j l q as es h1 h2 m1 m2 h3 h4
theorem ER.set' {sl : Sl} {o : Option V} (e : ER Γ G H env σ) {i : Nat} (r : SlR Γ G H sl o) (hi : i < env.length) (ho : sl.mine = false) : ER Γ G H (env.set i sl) (σ.set i o) := by
  have hi2 : i < σ.length := by rw [← e.len]; exact hi
  refine ⟨by simp [e.len], fun j sl' h => ?_, fun j l p ds es h1 h2 m1 m2 h3 h4 => ?_⟩
  · rw [getD_set _ _ _ _ _ hi2]
    by_cases hj : j = i
    · subst hj
      rw [List.getElem?_set_self hi] at h
      cases h
      rw [if_pos rfl]
      exact r
    · rw [List.getElem?_set_ne (Ne.symm hj)] at h
      rw [if_neg hj]
      exact e.at_ j sl' h
  · have hj : j ≠ i := fun z => by subst z; rw [List.getElem?_set_self hi] at h1; cases h1; rw [ho] at m1; cases m1
    have hl : l ≠ i := fun z => by subst z; rw [List.getElem?_set_self hi] at h2; cases h2; rw [ho] at m2; cases m2
    rw [List.getElem?_set_ne (Ne.symm hj)] at h1
    rw [List.getElem?_set_ne (Ne.symm hl)] at h2
    rw [getD_set _ _ _ _ _ hi2, if_neg hj] at h3
    rw [getD_set _ _ _ _ _ hi2, if_neg hl] at h4
    exact e.inj j l p ds es h1 h2 m1 m2 h3 h4
theorem set_ge {α : Type} (l : List α) (i : Nat) (v : α) (h : ¬ i < l.length) : l.set i v = l := List.set_eq_of_length_le (Nat.le_of_not_lt h)
theorem ER.wipe (e : ER Γ G H env σ) : ∀ vs : List Nat, ER Γ G H (env.wipe vs) (L2.wipe σ vs)
  | [] => e
  | v :: vs => by
    show ER Γ G H ((env.wipe vs).set v .un) ((L2.wipe σ vs).set v none)
    have r := ER.wipe e vs
    by_cases hv : v < (env.wipe vs).length
    · exact r.set' (sl := .un) (o := none) trivial hv rfl
    · rw [set_ge _ _ _ hv, set_ge _ _ _ (by rw [← r.len]; exact hv)]
      exact r
theorem wipe_len (env : En) : ∀ vs : List Nat, (env.wipe vs).length = env.length
  | [] => rfl
  | v :: vs => by show ((env.wipe vs).set v .un).length = _; rw [List.length_set, wipe_len env vs]
end
def ExR (Γ : Mo) (H : Hp) (g : Nat) (n : Int) (cls : Value) (da : Option Addr) : Prop := cls = .ref (Γ.at_ g) ∧ da = none
def PostV (Γ : Mo) (G : Gh) (H : Hp) (s : St2) (fr : Bool) (d : D) (Q : VK) : Prop := match fr, d with
  | true, .lst ds => ∀ p xs G' H', Grow G H G' H' → SOk Γ G' H' s → H p = none → H' p = some (.lst xs) → ¬ G'.Z p → G'.cup ≠ some p → Rps Γ G' H' xs ds → Q (.ref p) H'
  | _, d => ∀ v G' H', Grow G H G' H' → SOk Γ G' H' s → Rp Γ G' H' v d → Q v H'
def PostR (Γ : Mo) (W : WX) (σ : L2.St) (G : Gh) (H : Hp) {α : Type} (r : Option (Res α × St2)) (Q : α → St2 → Prop) : Prop := match r with
  | none => False
  | some (.ok a, s') => Q a s'
  | some (.ex g n, s') => ∀ cls da G' H', Grow G H G' H' → SOk Γ G' H' s' → ExR Γ H' g n cls da → W cls da σ H'
def Post (Γ : Mo) (W : WX) (σ : L2.St) (G : Gh) (H : Hp) (fr : Bool) (r : Option (Res D × St2)) (Q : VK) : Prop := PostR Γ W σ G H r fun d s' => PostV Γ G H s' fr d Q
section
variable {Γ : Mo} {W W' : WX} {σ : L2.St} {G G1 : Gh} {H H1 : Hp} {s : St2} {fr : Bool}
theorem PostV.mono {Q : VK} (g : Grow G H G1 H1) : ∀ {fr : Bool} {d : D}, PostV Γ G H s fr d Q → PostV Γ G1 H1 s fr d Q := by
  intro fr d h
  unfold PostV at h ⊢
  split at h
  · exact fun p xs G' H' g' k hp => h p xs G' H' (g.trans g') k (g.there p hp)
  · exact fun v G' H' g' k r => h v G' H' (g.trans g') k r
theorem PostR.mono {α : Type} {r : Option (Res α × St2)} {Q Q' : α → St2 → Prop} (g : Grow G H G1 H1) (hQ : ∀ a s, Q a s → Q' a s) (h : PostR Γ W σ G H r Q) : PostR Γ W σ G1 H1 r Q' := by
  cases r with
  | none => exact h
  | some q =>
    obtain ⟨r, s'⟩ := q
    cases r with
    | ok a => exact hQ a s' h
    | ex g' n => exact fun cls da G' H' g1 k e => h cls da G' H' (g.trans g1) k e
theorem Post.mono {r : Option (Res D × St2)} {Q : VK} (g : Grow G H G1 H1) (h : Post Γ W σ G H fr r Q) : Post Γ W σ G1 H1 fr r Q := PostR.mono g (fun d s h => h.mono g) h
theorem PostV.weak {d : D} {Q : VK} (h : PostV Γ G H s false d Q) : PostV Γ G H s true d Q := by
  cases d with
  | lst ds =>
    intro p xs G' H' g k hp hx nz nc r
    have h' : ∀ v G' H', Grow G H G' H' → SOk Γ G' H' s → Rp Γ G' H' v (.lst ds) → Q v H' := h
    exact h' (.ref p) (G'.add p) H' (g.add hp) (k.add nc hx) (.lst (.inr rfl) hx (r.add p))
  | _ => exact h
theorem Post.weak {r : Option (Res D × St2)} {Q : VK} (h : Post Γ W σ G H false r Q) : ∀ fr, Post Γ W σ G H fr r Q
  | false => h
  | true => PostR.mono (.refl G H) (fun _ _ q => q.weak) h
theorem PostR.bind {α β : Type} {m : M α} {k : α → M β} {R : β → St2 → Prop} {Q : α → St2 → Prop} (h : PostR Γ W σ G H (M.bind m k s) R) (hQ : ∀ a s1, m s = some (.ok a, s1) → PostR Γ W σ G H (k a s1) R → Q a s1) : PostR Γ W σ G H (m s) Q := by
  unfold M.bind at h
  cases e : m s with
  | none => rw [e] at h; exact h
  | some q =>
    obtain ⟨r, s'⟩ := q
    rw [e] at h
    cases r with
    | ok a => exact hQ a s' e h
    | ex g n => exact h
theorem Post.bind {α : Type} {m : M D} {k : D → M α} {R : α → St2 → Prop} {Q : VK} {fr : Bool} (h : PostR Γ W σ G H (M.bind m k s) R)
    (hQ : ∀ d s1 v G1 H1, Grow G H G1 H1 → SOk Γ G1 H1 s1 → Rp Γ G1 H1 v d → PostR Γ W σ G H (k d s1) R → Q v H1) : Post Γ W σ G H fr (m s) Q :=
  Post.weak (PostR.bind h fun d s1 _ h2 v G1 H1 g k1 r => hQ d s1 v G1 H1 g k1 r h2) fr
theorem Post.of {o : Option D} {Q : VK} {R : D → St2 → Prop} (h : PostR Γ W σ G H (M.of o s) R) : ∃ d, o = some d ∧ R d s := by
  cases o with
  | none => exact h.elim
  | some d => exact ⟨d, rfl, h⟩
theorem PostR.of {α : Type} {o : Option α} {R : α → St2 → Prop} (h : PostR Γ W σ G H (M.of o s) R) : ∃ d, o = some d ∧ R d s := by
  cases o with
  | none => exact h.elim
  | some d => exact ⟨d, rfl, h⟩
theorem PostR.calm {α β : Type} {m : M α} {k : α → M β} {R : β → St2 → Prop} {Q : α → St2 → Prop} (h : PostR Γ W σ G H (M.bind (M.calm m) k s) R) (hQ : ∀ a s1, m s = some (.ok a, s1) → PostR Γ W σ G H (k a s1) R → Q a s1) : PostR Γ W' σ G H (m s) Q := by
  unfold M.bind M.calm at h
  cases e : m s with
  | none => rw [e] at h; exact h
  | some q =>
    obtain ⟨r, s'⟩ := q
    rw [e] at h
    cases r with
    | ok a => exact hQ a s' e h
    | ex g n => exact h.elim
end
def rd (Γ : Mo) (W : WX) (fr : Bool) (f : En → M D) : TE := fun σ H Q => ∃ env G s, ER Γ G H env σ ∧ SOk Γ G H s ∧ Post Γ W σ G H fr (f env s) Q
def rdT (Γ : Mo) (W : WX) (f : En → M D) : TT := fun σ H Q => ∃ env G s, ER Γ G H env σ ∧ SOk Γ G H s ∧ PostR Γ W σ G H (f env s) fun d s' => ∃ b, d = .bl b ∧ ∀ G' H', Grow G H G' H' → SOk Γ G' H' s' → Q b H'
def rdA (Γ : Mo) (W : WX) (f : En → M (List D)) : TA := fun σ H Q => ∃ env G s, ER Γ G H env σ ∧ SOk Γ G H s ∧ PostR Γ W σ G H (f env s) fun ds s' => ∀ vs G' H', Grow G H G' H' → SOk Γ G' H' s' → Rps Γ G' H' vs ds → Q vs H'
def rdO (Γ : Mo) (W : WX) (f : En → M (Option Int)) : TO := fun σ H Q => ∃ env G s, ER Γ G H env σ ∧ SOk Γ G H s ∧ PostR Γ W σ G H (f env s) fun o s' => ∀ G' H', Grow G H G' H' → SOk Γ G' H' s' → Q o H'
def Yields (Γ : Mo) (G : Gh) (H : Hp) (J : It) (ds : List D) : Prop := ∀ i G1 H1 s, GrowZ G H G1 H1 → SOk Γ G1 H1 s →
  (∀ d, ds[i]? = some d → J.go i H1 ∧ ∀ x H2, J.yld i H1 x H2 → ∃ G2, Grow G1 H1 G2 H2 ∧ SOk Γ G2 H2 s ∧ Rp Γ G2 H2 x d) ∧ (ds.length ≤ i → J.stop i H1)
def rdI (Γ : Mo) (W : WX) (f : En → M (List D)) : TI := fun σ H R => ∃ env G s, ER Γ G H env σ ∧ SOk Γ G H s ∧ PostR Γ W σ G H (f env s) fun ds s' => ∀ J G' H', Grow G H G' H' → SOk Γ G' H' s' → Yields Γ G' H' J ds → R J H'
theorem PE.imp {X : Cx} {e : Expr} {t t' : TE} (h : PE X e t) (k : ∀ σ H Q, t' σ H Q → t σ H Q) : PE X e t' := ⟨fun pins s σ H Q I q => h.run pins s σ H Q I (k σ H Q q)⟩
theorem PT.imp {X : Cx} {e : Expr} {t t' : TT} (h : PT X e t) (k : ∀ σ H Q, t' σ H Q → t σ H Q) : PT X e t' := ⟨fun pins s σ H Q I q => h.run pins s σ H Q I (k σ H Q q)⟩
theorem PW.imp {X : Cx} {e : Expr} {t t' : TT} (h : PW X e t) (k : ∀ σ H Q, t' σ H Q → t σ H Q) : PW X e t' := ⟨fun wh pins s σ H Q I q => h.run wh pins s σ H Q I (k σ H Q q)⟩
theorem PA.imp {X : Cx} {e : List Expr} {t t' : TA} (h : PA X e t) (k : ∀ σ H Q, t' σ H Q → t σ H Q) : PA X e t' := ⟨fun pos pins s σ H Q I q => h.run pos pins s σ H Q I (k σ H Q q)⟩
theorem PIM.imp {X : Cx} {m : Cx → Prop} {tg e : Expr} {t t' : TI} (h : PIM X m tg e t) (k : ∀ σ H Q, t' σ H Q → t σ H Q) : PIM X m tg e t' := ⟨fun pins s σ H Q I q => h.run pins s σ H Q I (k σ H Q q)⟩
theorem PSs.imp {X : Cx} {e : List Stmt} {t t' : TS} (h : PSs X e t) (k : ∀ D σ H, t' D σ H → t D σ H) : PSs X e t' := ⟨fun pins s σ H D I q => h.run pins s σ H D I (k D σ H q)⟩
theorem PS.imp {X : Cx} {e : Stmt} {t t' : TS} (h : PS X e t) (k : ∀ D σ H, t' D σ H → t D σ H) : PS X e t' := ⟨fun pins s σ H D I q => h.run pins s σ H D I (k D σ H q)⟩
theorem rd.weak {Γ : Mo} {W : WX} {f : En → M D} {σ : L2.St} {H : Hp} {Q : VK} (h : rd Γ W false f σ H Q) (fr : Bool) : rd Γ W fr f σ H Q :=
  let ⟨env, G, s, er, k, p⟩ := h; ⟨env, G, s, er, k, p.weak fr⟩
theorem rd.go {Γ : Mo} {W : WX} {env : En} {G : Gh} {H : Hp} {s : St2} {σ : L2.St} (er : ER Γ G H env σ) (k : SOk Γ G H s) {α : Type} {m : En → M D} {kk : D → M α} {R : α → St2 → Prop} {Q : VK} {fr : Bool} (h : PostR Γ W σ G H (M.bind (m env) kk s) R)
    (hQ : ∀ d s1 v G1 H1, Grow G H G1 H1 → SOk Γ G1 H1 s1 → Rp Γ G1 H1 v d → ER Γ G1 H1 env σ → PostR Γ W σ G H (kk d s1) R → Q v H1) : rd Γ W fr m σ H Q :=
  ⟨env, G, s, er, k, Post.bind h fun d s1 v G1 H1 g k1 r h2 => hQ d s1 v G1 H1 g k1 r (er.grow k g) h2⟩
theorem rdT.go {Γ : Mo} {W : WX} {env : En} {G : Gh} {H : Hp} {s : St2} {σ : L2.St} (er : ER Γ G H env σ) (k : SOk Γ G H s) {α : Type} {m : En → M D} {kk : D → M α} {R : α → St2 → Prop} {Q : Bool → Hp → Prop} (h : PostR Γ W σ G H (M.bind (m env) kk s) R)
    (hb : ∀ d s1, PostR Γ W σ G H (kk d s1) R → ∃ b, d = .bl b)
    (hQ : ∀ b s1 G1 H1, Grow G H G1 H1 → SOk Γ G1 H1 s1 → ER Γ G1 H1 env σ → PostR Γ W σ G H (kk (.bl b) s1) R → Q b H1) : rdT Γ W m σ H Q :=
  ⟨env, G, s, er, k, PostR.bind h fun d s1 _ h2 => by
    obtain ⟨b, rfl⟩ := hb d s1 h2
    exact ⟨b, rfl, fun G1 H1 g k1 => hQ b s1 G1 H1 g k1 (er.grow k g) h2⟩⟩
theorem rdA.go {Γ : Mo} {W : WX} {env : En} {G : Gh} {H : Hp} {s : St2} {σ : L2.St} (er : ER Γ G H env σ) (k : SOk Γ G H s) {α : Type} {m : En → M (List D)} {kk : List D → M α} {R : α → St2 → Prop} {Q : List V → Hp → Prop} (h : PostR Γ W σ G H (M.bind (m env) kk s) R)
    (hQ : ∀ ds s1 vs G1 H1, Grow G H G1 H1 → SOk Γ G1 H1 s1 → Rps Γ G1 H1 vs ds → ER Γ G1 H1 env σ → PostR Γ W σ G H (kk ds s1) R → Q vs H1) : rdA Γ W m σ H Q :=
  ⟨env, G, s, er, k, PostR.bind h fun d s1 _ h2 vs G1 H1 g k1 r => hQ d s1 vs G1 H1 g k1 r (er.grow k g) h2⟩
theorem rdO.go {Γ : Mo} {W : WX} {env : En} {G : Gh} {H : Hp} {s : St2} {σ : L2.St} (er : ER Γ G H env σ) (k : SOk Γ G H s) {α : Type} {m : En → M (Option Int)} {kk : Option Int → M α} {R : α → St2 → Prop} {Q : Option Int → Hp → Prop} (h : PostR Γ W σ G H (M.bind (m env) kk s) R)
    (hQ : ∀ o s1 G1 H1, Grow G H G1 H1 → SOk Γ G1 H1 s1 → ER Γ G1 H1 env σ → PostR Γ W σ G H (kk o s1) R → Q o H1) : rdO Γ W m σ H Q :=
  ⟨env, G, s, er, k, PostR.bind h fun d s1 _ h2 G1 H1 g k1 => hQ d s1 G1 H1 g k1 (er.grow k g) h2⟩
end Co
set_option Elab.async false
set_option linter.all false
set_option maxRecDepth 100000
set_option maxHeartbeats 4000000
namespace Co
open PySem PySem.Spec PyProof.Rows L2
def tDispT (tk tv : TE) : TE := fun σ H Q => ∀ p, H p = none → tk σ (upd H p (.dT [])) fun x H1 => tv σ H1 fun y H2 => H2 p = some (.dT []) ∧ ∃ b ks, x = .ref b ∧ H2 b = some (.tup (ks.map kV)) ∧ Q (.ref p) (upd H2 p (.dT [(ks, y)]))
theorem pe_dispT {X : Cx} {pos : Pos} {k v : Expr} {tk tv : TE} (hu : X.A.units + 66 < cLine) (hk : PE X k tk) (hv : PE X v tv) : PE X (.Dict [some k] [v] pos) (tDispT tk tv) := by
  refine ⟨fun pins s σ H Q I q => ?_⟩
  have hn := I.hok.fresh (Nat.le_refl s.heap.objs.size)
  have I1 := I.laid (a := s.heap.objs.size) (o := .dT []) (h' := s.heap.push { cls := .type "dict", data := .dict #[] }) (t' := s.toks) (fun _ _ q => Heap.get?_push_of_some _ q) (Nat.le_refl _) (dt_empty s.heap I.big)
  have hsh := zip_pairTrees [some k] [v] X.env pos rfl rfl
  have hlen := pairTrees_length [some k] [v] X.env pos rfl rfl
  have hne : pairTrees [some k] [v] X.env pos ≠ [] := fun e => by rw [e] at hlen; cases hlen
  rw [arm_eval_Dict, hsh, dictDisplay_pairs (pairTrees [some k] [v] X.env pos) hne (by rw [hlen]; exact (by decide : 1 < 17))]
  refine wpAny_bind (wpAny_standAt (wpAny_bind (wpAny_subDictH (knd := tupleKind (mixKind X.prog X.w)) (Q := fun d s' => wpAny (model X.prog X.w) X.A (pure (Value.ref d)) _ X.xe s') ?_ (by rw [hlen]; exact (by decide : 1 ≤ 15)) ?_)))
  · show X.A.units < cLine
    omega
  refine pairTrees_cons_walk (thn (hk.run pins _ σ _ _ I1 (q _ hn)) fun u s1 ⟨x, H1, I2, rx, q1⟩ => thn (hv.run pins s1 σ H1 _ I2 q1) fun w2 s2 ⟨y, H2, I3, ry, e, b, ks, ex, eb, q2⟩ => pairTrees_nil_walk ?_)
  subst ex
  obtain rfl : u = Value.ref b := rx
  obtain ⟨z, hd, xs, rel, dd⟩ := dt_of I3.hok e
  cases rel
  refine ⟨[(ks, b, w2)], ⟨rfl, rfl, key_of I3.hok eb, trivial⟩, dd, fun h' tk hm hs => wpAny_pure ⟨.ref s.heap.objs.size, _, ?_, rfl, q2⟩⟩
  obtain ⟨q, es, ep, hq, h2, h3, h4, _, h5⟩ := hm
  refine d_write I3 (by rw [e]; exact True.intro) hs ⟨q, hq⟩ ⟨by show 1 ≤ sizeLine; rw [sizeLine_eq]; decide, hd, _, .cons ⟨rfl, ?_, ry⟩ .nil, q, es, ep, hq, h2, h3, h4, h5⟩
  show upd H2 s.heap.objs.size (.dT [(ks, y)]) b = some (.tup (ks.map kV))
  rw [upd_ne (fun z => by rw [z] at eb; rw [e] at eb; cases eb)]
  exact eb
theorem keyOf_kv {Γ : Mo} {G : Gh} {H : Hp} : ∀ {vs : List V} {ds : List D} {k : List Key}, Rps Γ G H vs ds → D.keyOf ds = some k → vs = k.map kV
  | _, _, _, .nil, e => by cases e; rfl
  | _, _, k, .cons (ds := ds) (.int i) r, e => by
    have e : (D.keyOf ds).map (Sum.inl i :: ·) = some k := e
    cases q : D.keyOf ds with
    | none => rw [q] at e; cases e
    | some ms => rw [q] at e; cases e; rw [List.map_cons, keyOf_kv r q]; rfl
  | _, _, k, .cons (ds := ds) (.str i) r, e => by
    have e : (D.keyOf ds).map (Sum.inr i :: ·) = some k := e
    cases q : D.keyOf ds with
    | none => rw [q] at e; cases e
    | some ms => rw [q] at e; cases e; rw [List.map_cons, keyOf_kv r q]; rfl
  | _, _, _, .cons .non _, e => by cases e
  | _, _, _, .cons (.bl _) _, e => by cases e
  | _, _, _, .cons (.lst _ _ _) _, e => by cases e
  | _, _, _, .cons (.tup _ _) _, e => by cases e
  | _, _, _, .cons (.cup _) _, e => by cases e
  | _, _, _, .cons (.fn _) _, e => by cases e
  | _, _, _, .cons (.thk _) _, e => by cases e
  | _, _, _, .cons (.exc _) _, e => by cases e
  | _, _, _, .cons (.scr _) _, e => by cases e
end Co
set_option Elab.async false
set_option linter.all false
set_option maxRecDepth 100000
set_option maxHeartbeats 4000000
namespace Co
open PySem PySem.Spec PyProof.Rows L2
theorem sizeOk_of {n : Nat} (h : sizeOk n = true) : n ≤ sizeLine := by
  rw [sizeLine_eq]; exact of_decide_eq_true h
section
variable {Γ : Mo} {G : Gh} {H : Hp} {s : St2} {Q : VK}
theorem postN {d : D} (h : PostV Γ G H s true d Q) (nl : ∀ ds, d ≠ .lst ds) : ∀ v G' H', Grow G H G' H' → SOk Γ G' H' s → Rp Γ G' H' v d → Q v H' := by
  unfold PostV at h
  split at h
  · exact absurd rfl (nl _)
  · exact h
theorem postAt {d : D} {v : V} (h : PostV Γ G H s true d Q) (k : SOk Γ G H s) (nl : ∀ ds, d ≠ .lst ds) (r : Rp Γ G H v d) : Q v H := postN h nl v G H (.refl G H) k r
theorem postL {ds : List D} (h : PostV Γ G H s true (.lst ds) Q) (k : SOk Γ G H s) {xs : List V} (r : Rps Γ G H xs ds) : ∀ p, H p = none → Q (.ref p) (upd H p (.lst xs)) := fun p hp => by
  have h' : ∀ p xs G' H', Grow G H G' H' → SOk Γ G' H' s → H p = none → H' p = some (.lst xs) → ¬ G'.Z p → G'.cup ≠ some p → Rps Γ G' H' xs ds → Q (.ref p) H' := h
  exact h' p xs G (upd H p (.lst xs)) (.upd G _ hp) (k.upd _ hp) hp upd_same (fun z => k.zin p z hp) (k.nup hp) (r.grow k (.upd G _ hp))
theorem postT {ds : List D} (h : PostV Γ G H s true (.tup ds) Q) (k : SOk Γ G H s) {xs : List V} (r : Rps Γ G H xs ds) : ∀ p, H p = none → Q (.ref p) (upd H p (.tup xs)) := fun p hp =>
  postN h (fun _ z => nomatch z) (.ref p) G (upd H p (.tup xs)) (.upd G _ hp) (k.upd _ hp) (.tup (SqT.of upd_same) (r.grow k (.upd G _ hp)))
end
theorem Rps.nil_of {Γ : Mo} {G : Gh} {H : Hp} {vs : List V} {ds : List D} (r : Rps Γ G H vs ds) (h : vs = []) : ds = [] := by
  subst h; cases r; rfl
theorem Rps.nil_of' {Γ : Mo} {G : Gh} {H : Hp} {vs : List V} {ds : List D} (r : Rps Γ G H vs ds) (h : ds = []) : vs = [] := by
  subst h; cases r; rfl
def rBin (Γ : Mo) (op : Operator) : R2 := fun x y H Q => ∃ G s a b d, SOk Γ G H s ∧ Rp Γ G H x a ∧ Rp Γ G H y b ∧ binD op a b = some d ∧ PostV Γ G H s true d Q
theorem op_fdivX {X : Cx} : OpR X (binaryOp .FloorDiv) (rI (fun _ j => divOk j = true) fun i j => .int (i.fdiv j)) := opI fun _ _ _ _ _ _ _ hc q => by
  have hc : divOk _ = true := hc
  unfold divOk at hc
  obtain ⟨h1, h2⟩ := Bool.and_eq_true_iff.mp hc
  exact floordiv_int (of_decide_eq_true h1) q (.inl (PyProof.noPylong_of_log2 (of_decide_eq_true h2)))
theorem op_mulX {X : Cx} : OpR X (binaryOp .Mult) (rI (fun i j => mulOk i j = true) fun i j => .int (i * j)) := fun pins s σ H x y v u Q I rx ry h => by
  obtain ⟨i, j, rfl, rfl, hc, q⟩ := h
  unfold mulOk at hc
  rcases Bool.or_eq_true_iff.mp hc with hc | hc
  · refine op_mul pins s σ H _ _ v u Q I rx ry ⟨i, j, rfl, rfl, ?_, q⟩
    unfold CMul
    rcases Bool.or_eq_true_iff.mp hc with hc | hc
    · have := of_decide_eq_true hc; left; omega
    · have := of_decide_eq_true hc; right; omega
  · exact op_mulW pins s σ H _ _ v u Q I rx ry ⟨i, j, rfl, rfl, (show i.natAbs.log2 + j.natAbs.log2 < 1000000 from of_decide_eq_true hc), q⟩
theorem ite_some {c : Bool} {α : Type} {a d : α} (h : (if c = true then some a else none) = some d) : c = true ∧ a = d := by
  cases c with
  | true => exact ⟨rfl, Option.some.inj h⟩
  | false => exact absurd h (by simp)
theorem ite_someP {c : Prop} [Decidable c] {α : Type} {a d : α} (h : (if c then some a else none) = some d) : c ∧ a = d := by
  by_cases hc : c
  · rw [if_pos hc] at h; exact ⟨hc, Option.some.inj h⟩
  · rw [if_neg hc] at h; cases h
theorem op_bin {X : Cx} {Γ : Mo} (hK : X.K = Γ.K) (op : Operator) : OpR X (binaryOp op) (rBin Γ op) := by
  intro pins s σ H x y v u Q I rx ry h
  obtain ⟨G, t, a, b, d, k, r1, r2, e, p⟩ := h
  have hK' : Γ.K = X.K := hK.symm
  cases op with
  | Add =>
    cases r1 with
    | int i =>
      cases r2 with
      | int j => cases e; exact op_add pins s σ H _ _ v u Q I rx ry ⟨i, j, rfl, rfl, postAt p k (fun _ z => nomatch z) (.int _)⟩
      | _ => cases e
    | str i =>
      cases r2 with
      | str j =>
        obtain ⟨h1, rfl⟩ := ite_some (show (if sizeOk (i.length + j.length) = true then some (D.str (i ++ j)) else none) = some d from e)
        exact op_add_str pins s σ H _ _ v u Q I rx ry ⟨i, j, rfl, rfl, sizeOk_of h1, postAt p k (fun _ z => nomatch z) (.str _)⟩
      | _ => cases e
    | @lst l xs ds hz hl rl =>
      cases r2 with
      | @lst l2 ys es hz2 hl2 rl2 =>
        obtain ⟨h1, rfl⟩ := ite_some (show (if sizeOk (ds.length + es.length) = true then some (D.lst (ds ++ es)) else none) = some d from e)
        exact op_cat pins s σ H _ _ v u Q I rx ry ⟨l, l2, xs, ys, rfl, rfl, hl, hl2, by rw [rl.length, rl2.length]; exact sizeOk_of h1, postL p k (rl.append rl2)⟩
      | _ => cases e
    | @tup l xs ds hl rl =>
      cases r2 with
      | @tup l2 ys es hl2 rl2 =>
        obtain ⟨h1, rfl⟩ := ite_some (show (if sizeOk (ds.length + es.length) = true then some (D.tup (ds ++ es)) else none) = some d from e)
        refine op_catA pins s σ H _ _ v u Q I rx ry ⟨l, l2, xs, ys, rfl, rfl, by rw [← hK']; exact hl, by rw [← hK']; exact hl2, by rw [rl.length, rl2.length]; exact sizeOk_of h1, fun z => ?_, fun _ z => ?_, fun _ _ => postT p k (rl.append rl2)⟩
        · have := rl.nil_of z
          subst this
          exact postAt p k (fun _ z => nomatch z) (.tup hl2 rl2)
        · have := rl2.nil_of z
          subst this
          refine postAt p k (fun _ z => nomatch z) ?_
          rw [List.append_nil]
          exact .tup hl rl
      | _ => cases e
    | _ => cases r2 <;> cases e
  | Sub =>
    cases r1 with
    | int i =>
      cases r2 with
      | int j => cases e; exact op_sub pins s σ H _ _ v u Q I rx ry ⟨i, j, rfl, rfl, postAt p k (fun _ z => nomatch z) (.int _)⟩
      | _ => cases e
    | _ => cases r2 <;> cases e
  | Mult =>
    cases r1 with
    | int i =>
      cases r2 with
      | int j =>
        obtain ⟨h1, rfl⟩ := ite_some (show (if mulOk i j = true then some (D.int (i * j)) else none) = some d from e)
        exact op_mulX pins s σ H _ _ v u Q I rx ry ⟨i, j, rfl, rfl, h1, postAt p k (fun _ z => nomatch z) (.int _)⟩
      | _ => cases e
    | @lst l xs ds hz hl rl =>
      cases r2 with
      | int j =>
        obtain ⟨h1, rfl⟩ := ite_some (show (if (int64 j && sizeOk (ds.length * j.toNat)) = true then some (D.lst (List.replicate j.toNat ds).flatten) else none) = some d from e)
        obtain ⟨h2, h3⟩ := Bool.and_eq_true_iff.mp h1
        unfold int64 at h2
        obtain ⟨h4, h5⟩ := Bool.and_eq_true_iff.mp h2
        have h4 := of_decide_eq_true h4
        have h5 := of_decide_eq_true h5
        exact op_rep pins s σ H _ _ v u Q I rx ry ⟨l, j, xs, rfl, rfl, hl, by omega, by omega, by rw [rl.length]; exact sizeOk_of h3, postL p k (rl.rep _)⟩
      | _ => cases e
    | @tup l xs ds hl rl =>
      cases r2 with
      | int j =>
        obtain ⟨h1, rfl⟩ := ite_some (show (if (!ds.isEmpty && (decide (2 ≤ j) && (decide (j ≤ 1000) && decide (ds.length ≤ 1000)))) = true then some (D.tup (List.replicate j.toNat ds).flatten) else none) = some d from e)
        obtain ⟨h2, h3⟩ := Bool.and_eq_true_iff.mp h1
        obtain ⟨h4, h5⟩ := Bool.and_eq_true_iff.mp h3
        obtain ⟨h6, h7⟩ := Bool.and_eq_true_iff.mp h5
        exact op_repT pins s σ H _ _ v u Q I rx ry ⟨l, j, xs, rfl, rfl, by rw [← hK']; exact hl, (fun z => by rw [rl.nil_of z] at h2; cases h2), of_decide_eq_true h4, of_decide_eq_true h6, by rw [rl.length]; exact of_decide_eq_true h7, postT p k (rl.rep _)⟩
      | _ => cases e
    | _ => cases r2 <;> cases e
  | FloorDiv =>
    cases r1 with
    | int i =>
      cases r2 with
      | int j =>
        obtain ⟨h1, rfl⟩ := ite_some (show (if divOk j = true then some (D.int (i.fdiv j)) else none) = some d from e)
        exact op_fdivX pins s σ H _ _ v u Q I rx ry ⟨i, j, rfl, rfl, h1, postAt p k (fun _ z => nomatch z) (.int _)⟩
      | _ => cases e
    | _ => cases r2 <;> cases e
  | Mod =>
    cases r1 with
    | int i =>
      cases r2 with
      | int j =>
        obtain ⟨h1, rfl⟩ := ite_someP (show (if j ≠ 0 then some (D.int (i.fmod j)) else none) = some d from e)
        exact op_modN pins s σ H _ _ v u Q I rx ry ⟨i, j, rfl, rfl, h1, postAt p k (fun _ z => nomatch z) (.int _)⟩
      | _ => cases e
    | _ => cases r2 <;> cases e
  | Pow =>
    cases r1 with
    | int i =>
      cases r2 with
      | int j =>
        obtain ⟨h1, rfl⟩ := ite_someP (show (if 0 ≤ j ∧ j ≤ 1000000 ∧ i.natAbs < 2 ^ 64 then some (D.int (i ^ j.toNat)) else none) = some d from e)
        exact op_pow pins s σ H _ _ v u Q I rx ry ⟨i, j, rfl, rfl, h1, postAt p k (fun _ z => nomatch z) (.int _)⟩
      | _ => cases e
    | _ => cases r2 <;> cases e
  | _ => cases r1 <;> cases r2 <;> cases e
def rCmp (Γ : Mo) (op : CmpOp) : R2 := fun x y H Q => ∃ G s a b r, SOk Γ G H s ∧ Rp Γ G H x a ∧ Rp Γ G H y b ∧ cmpD op a b = some r ∧ Q (.bl r) H
theorem eq_parts {a b : D} {r : Bool} (h : D.eq a b = some r) : ∃ p q, a.py = some p ∧ b.py = some q ∧ SeqAt.shaped p = true ∧ SeqAt.shaped q = true ∧ r = PyData.eqv p q := by
  unfold D.eq at h
  cases e1 : a.py with
  | none => rw [e1] at h; cases h
  | some p =>
    cases e2 : b.py with
    | none => rw [e1, e2] at h; cases h
    | some q =>
      rw [e1, e2] at h
      obtain ⟨h1, h2⟩ := ite_some h
      obtain ⟨h3, h4⟩ := Bool.and_eq_true_iff.mp h1
      exact ⟨p, q, rfl, rfl, h3, h4, h2.symm⟩
theorem op_eqX {X : Cx} {Γ : Mo} (hK : X.K = Γ.K) (hu : X.A.units + 66 < cLine) : OpR X (compareOp .Eq) (rCmp Γ .Eq) := by
  intro pins s σ H x y v u Q I rx ry h
  obtain ⟨G, t, a, b, r, k, r1, r2, e, q⟩ := h
  obtain ⟨p1, p2, e1, e2, h1, h2, rfl⟩ := eq_parts (show D.eq a b = some r from e)
  exact op_eqD (by omega) pins s σ H x y v u Q I rx ry ⟨p1, p2, by rw [hK]; exact r1.dp e1, by rw [hK]; exact r2.dp e2, h1, h2, q⟩
theorem op_neX {X : Cx} {Γ : Mo} (hK : X.K = Γ.K) (hu : X.A.units + 66 < cLine) : OpR X (compareOp .NotEq) (rCmp Γ .NotEq) := by
  intro pins s σ H x y v u Q I rx ry h
  obtain ⟨G, t, a, b, r, k, r1, r2, e, q⟩ := h
  have e : (D.eq a b).map (!·) = some r := e
  cases e0 : D.eq a b with
  | none => rw [e0] at e; cases e
  | some r0 =>
    rw [e0] at e
    cases e
    obtain ⟨p1, p2, e1, e2, h1, h2, rfl⟩ := eq_parts e0
    exact op_neD (by omega) pins s σ H x y v u Q I rx ry ⟨p1, p2, by rw [hK]; exact r1.dp e1, by rw [hK]; exact r2.dp e2, h1, h2, q⟩
theorem sv_of {Γ : Mo} {G : Gh} {H : Hp} {x : V} {d : D} (r : Rp Γ G H x d) (h : d.scl = true) : x = d.sv ∧ flatV d.sv = true := by
  cases r <;> first | exact ⟨rfl, rfl⟩ | cases h
theorem svs_of {Γ : Mo} {G : Gh} {H : Hp} : ∀ {xs : List V} {ds : List D}, Rps Γ G H xs ds → ds.all D.scl = true → xs = ds.map D.sv ∧ (ds.map D.sv).all flatV = true
  | _, _, .nil, _ => ⟨rfl, rfl⟩
  | _, _, .cons h r, e => by
    rw [List.all_cons, Bool.and_eq_true_iff] at e
    obtain ⟨e1, e2⟩ := sv_of h e.1
    obtain ⟨e3, e4⟩ := svs_of r e.2
    exact ⟨by rw [List.map_cons, e1, e3], by rw [List.map_cons, List.all_cons, e2, e4]; rfl⟩
theorem inL_parts {d : D} {l : List D} {r : Bool} (h : inL d l = some r) : ∃ p ps, d.py = some p ∧ D.pys l = some ps ∧ SeqAt.shaped p = true ∧ SeqAt.shaped (.list ps) = true ∧ r = ps.any fun z => PyData.eqv z p := by
  unfold inL at h
  cases e1 : d.py with
  | none => rw [e1] at h; cases h
  | some p =>
    cases e2 : D.pys l with
    | none => rw [e1, e2] at h; cases h
    | some q =>
      rw [e1, e2] at h
      obtain ⟨h1, h2⟩ := ite_some h
      obtain ⟨h3, h4⟩ := Bool.and_eq_true_iff.mp h1
      exact ⟨p, q, rfl, rfl, h3, h4, h2.symm⟩
theorem op_cmp {X : Cx} {Γ : Mo} (hK : X.K = Γ.K) (hu : X.A.units + 66 < cLine) (op : CmpOp) : OpR X (compareOp op) (rCmp Γ op) := by
  have hK' : Γ.K = X.K := hK.symm
  cases op with
  | Eq => exact op_eqX hK hu
  | NotEq => exact op_neX hK hu
  | Lt =>
    intro pins s σ H x y v u Q I rx ry h
    obtain ⟨G, t, a, b, r, k, r1, r2, e, q⟩ := h
    cases r1 <;> cases r2 <;> first | (cases e; done) | (cases e; exact op_lt pins s σ H _ _ v u Q I rx ry ⟨_, _, rfl, rfl, q⟩)
  | LtE =>
    intro pins s σ H x y v u Q I rx ry h
    obtain ⟨G, t, a, b, r, k, r1, r2, e, q⟩ := h
    cases r1 <;> cases r2 <;> first | (cases e; done) | (cases e; exact op_le pins s σ H _ _ v u Q I rx ry ⟨_, _, rfl, rfl, q⟩)
  | Gt =>
    intro pins s σ H x y v u Q I rx ry h
    obtain ⟨G, t, a, b, r, k, r1, r2, e, q⟩ := h
    cases r1 <;> cases r2 <;> first | (cases e; done) | (cases e; exact op_gt pins s σ H _ _ v u Q I rx ry ⟨_, _, rfl, rfl, q⟩)
  | GtE =>
    intro pins s σ H x y v u Q I rx ry h
    obtain ⟨G, t, a, b, r, k, r1, r2, e, q⟩ := h
    cases r1 <;> cases r2 <;> first | (cases e; done) | (cases e; exact op_ge pins s σ H _ _ v u Q I rx ry ⟨_, _, rfl, rfl, q⟩)
  | Is =>
    intro pins s σ H x y v u Q I rx ry h
    obtain ⟨G, t, a, b, r, k, r1, r2, e, q⟩ := h
    cases r2 with
    | non =>
      refine op_isN pins s σ H _ _ v u Q I rx ry ⟨rfl, ?_⟩
      cases r1 <;> (cases e; first | exact q | simpa using q)
    | _ => cases e
  | IsNot =>
    intro pins s σ H x y v u Q I rx ry h
    obtain ⟨G, t, a, b, r, k, r1, r2, e, q⟩ := h
    cases r2 with
    | non =>
      refine op_notN pins s σ H _ _ v u Q I rx ry ⟨rfl, ?_⟩
      cases r1 <;> (cases e; first | exact q | simpa using q)
    | _ => cases e
  | In =>
    intro pins s σ H x y v u Q I rx ry h
    obtain ⟨G, t, a, b, r, k, r1, r2, e, q⟩ := h
    cases r2 with
    | @lst l ys es hz hl rl =>
      obtain ⟨p, ps, e1, e2, h1, h2, rfl⟩ := inL_parts (show inL a es = some r from by cases a <;> exact e)
      exact op_inD (by omega) pins s σ H _ _ v u Q I rx ry ⟨p, ps, by rw [hK]; exact r1.dp e1, by rw [hK]; exact .lst (SqL.of hl) (rl.dp e2), h1, h2, q⟩
    | @tup l ys es hl rl =>
      obtain ⟨h1, rfl⟩ := ite_some (show (if (a.scl && es.all D.scl) = true then some (inV a.sv (es.map D.sv)) else none) = some r from by cases a <;> exact e)
      obtain ⟨h2, h3⟩ := Bool.and_eq_true_iff.mp h1
      obtain ⟨rfl, f1⟩ := sv_of r1 h2
      obtain ⟨rfl, f2⟩ := svs_of rl h3
      exact op_in_seq pins s σ H _ _ v u Q I rx ry ⟨l, _, rfl, .inr (by rw [← hK']; exact hl), f1, f2, q⟩
    | _ => cases r1 <;> cases e
  | NotIn =>
    intro pins s σ H x y v u Q I rx ry h
    obtain ⟨G, t, a, b, r, k, r1, r2, e, q⟩ := h
    cases r2 with
    | @lst l ys es hz hl rl =>
      have e : (inL a es).map (!·) = some r := by cases a <;> exact e
      cases e0 : inL a es with
      | none => rw [e0] at e; cases e
      | some r0 =>
        rw [e0] at e
        cases e
        obtain ⟨p, ps, e1, e2, h1, h2, rfl⟩ := inL_parts e0
        exact op_notInD (by omega) pins s σ H _ _ v u Q I rx ry ⟨p, ps, by rw [hK]; exact r1.dp e1, by rw [hK]; exact .lst (SqL.of hl) (rl.dp e2), h1, h2, q⟩
    | @tup l ys es hl rl =>
      obtain ⟨h1, rfl⟩ := ite_some (show (if (a.scl && es.all D.scl) = true then some (!inV a.sv (es.map D.sv)) else none) = some r from by cases a <;> exact e)
      obtain ⟨h2, h3⟩ := Bool.and_eq_true_iff.mp h1
      obtain ⟨rfl, f1⟩ := sv_of r1 h2
      obtain ⟨rfl, f2⟩ := svs_of rl h3
      exact op_notIn_seq pins s σ H _ _ v u Q I rx ry ⟨l, _, rfl, .inr (by rw [← hK']; exact hl), f1, f2, q⟩
    | _ => cases r1 <;> cases e
theorem ints_of {Γ : Mo} {G : Gh} {H : Hp} : ∀ {xs : List V} {ds : List D} {ns : List Int}, Rps Γ G H xs ds → D.ints ds = some ns → xs = ns.map V.int
  | _, _, _, .nil, e => by cases e; rfl
  | _, _, ns, .cons (ds := ds) (.int i) r, e => by
    have e : (D.ints ds).map (i :: ·) = some ns := e
    cases q : D.ints ds with
    | none => rw [q] at e; cases e
    | some ms => rw [q] at e; cases e; rw [List.map_cons, ints_of r q]
  | _, _, _, .cons .non _, e => by cases e
  | _, _, _, .cons (.bl _) _, e => by cases e
  | _, _, _, .cons (.str _) _, e => by cases e
  | _, _, _, .cons (.lst _ _ _) _, e => by cases e
  | _, _, _, .cons (.tup _ _) _, e => by cases e
  | _, _, _, .cons (.cup _) _, e => by cases e
  | _, _, _, .cons (.fn _) _, e => by cases e
  | _, _, _, .cons (.thk _) _, e => by cases e
  | _, _, _, .cons (.exc _) _, e => by cases e
  | _, _, _, .cons (.scr _) _, e => by cases e
theorem bools_of {Γ : Mo} {G : Gh} {H : Hp} : ∀ {xs : List V} {ds : List D} {ns : List Bool}, Rps Γ G H xs ds → D.bools ds = some ns → xs = ns.map V.bl
  | _, _, _, .nil, e => by cases e; rfl
  | _, _, ns, .cons (ds := ds) (.bl i) r, e => by
    have e : (D.bools ds).map (i :: ·) = some ns := e
    cases q : D.bools ds with
    | none => rw [q] at e; cases e
    | some ms => rw [q] at e; cases e; rw [List.map_cons, bools_of r q]
  | _, _, _, .cons .non _, e => by cases e
  | _, _, _, .cons (.int _) _, e => by cases e
  | _, _, _, .cons (.str _) _, e => by cases e
  | _, _, _, .cons (.lst _ _ _) _, e => by cases e
  | _, _, _, .cons (.tup _ _) _, e => by cases e
  | _, _, _, .cons (.cup _) _, e => by cases e
  | _, _, _, .cons (.fn _) _, e => by cases e
  | _, _, _, .cons (.thk _) _, e => by cases e
  | _, _, _, .cons (.exc _) _, e => by cases e
  | _, _, _, .cons (.scr _) _, e => by cases e
theorem strs_of {Γ : Mo} {G : Gh} {H : Hp} : ∀ {xs : List V} {ds : List D} {ns : List Str}, Rps Γ G H xs ds → D.strs ds = some ns → xs = ns.map V.str
  | _, _, _, .nil, e => by cases e; rfl
  | _, _, ns, .cons (ds := ds) (.str i) r, e => by
    have e : (D.strs ds).map (i :: ·) = some ns := e
    cases q : D.strs ds with
    | none => rw [q] at e; cases e
    | some ms => rw [q] at e; cases e; rw [List.map_cons, strs_of r q]
  | _, _, _, .cons .non _, e => by cases e
  | _, _, _, .cons (.int _) _, e => by cases e
  | _, _, _, .cons (.bl _) _, e => by cases e
  | _, _, _, .cons (.lst _ _ _) _, e => by cases e
  | _, _, _, .cons (.tup _ _) _, e => by cases e
  | _, _, _, .cons (.cup _) _, e => by cases e
  | _, _, _, .cons (.fn _) _, e => by cases e
  | _, _, _, .cons (.thk _) _, e => by cases e
  | _, _, _, .cons (.exc _) _, e => by cases e
  | _, _, _, .cons (.scr _) _, e => by cases e
theorem rps_ints {Γ : Mo} {G : Gh} {H : Hp} : ∀ ns : List Int, Rps Γ G H (ns.map V.int) (ns.map D.int)
  | [] => .nil
  | n :: ns => .cons (.int n) (rps_ints ns)
def Bi.new : Bi → Bool
  | .list => true
  | .srt => true
  | _ => false
def rBlt (Γ : Mo) (f : Bi) : List V → Hp → VK → Prop := fun vs H Q => ∃ G s ds, SOk Γ G H s ∧ Rps Γ G H vs ds ∧ PostR Γ (fun _ _ _ _ => False) [] G H (bltM f ds s) fun d s' => s' = s ∧ PostV Γ G H s f.new d Q
def Bi.val : Bi → Value
  | .len => .builtin "len" | .abs => .builtin "abs" | .max2 => .builtin "max" | .min2 => .builtin "min" | .int => .type "int" | .list => .type "list" | .tuple => .type "tuple"
  | .all => .builtin "all" | .any => .builtin "any" | .sum => .builtin "sum" | .gcd => .builtin "math.gcd" | .srt => .builtin "sorted" | .stri => .type "str"
def Bi.cold : Bi → Bool
  | .max2 => true | .min2 => true | .all => true | .any => true | .sum => true | _ => false
theorem bltM_of {f : Bi} {ds : List D} {s : St2} {Γ : Mo} {G : Gh} {H : Hp} {W : WX} {σ : L2.St} {R : D → St2 → Prop} (h : PostR Γ W σ G H (bltM f ds s) R) (hf : f ≠ .list) : ∃ d, bltD f ds = some d ∧ R d s := by
  have e : bltM f ds = M.of (bltD f ds) := by unfold bltM; split <;> first | (exact absurd rfl hf) | rfl
  rw [e] at h
  exact PostR.of h
theorem pvF {Γ : Mo} {G : Gh} {H : Hp} {s : St2} {d : D} {v : V} {Q : VK} (h : PostV Γ G H s false d Q) (k : SOk Γ G H s) (r : Rp Γ G H v d) : Q v H := (show ∀ v G' H', Grow G H G' H' → SOk Γ G' H' s → Rp Γ G' H' v d → Q v H' from h) v G H (.refl G H) k r
theorem pvT {Γ : Mo} {G : Gh} {H : Hp} {s : St2} {ds : List D} {Q : VK} (h : PostV Γ G H s false (.tup ds) Q) (k : SOk Γ G H s) {xs : List V} (r : Rps Γ G H xs ds) : ∀ p, H p = none → Q (.ref p) (upd H p (.tup xs)) := fun p hp =>
  (show ∀ v G' H', Grow G H G' H' → SOk Γ G' H' s → Rp Γ G' H' v (.tup ds) → Q v H' from h) (.ref p) G (upd H p (.tup xs)) (.upd G _ hp) (k.upd _ hp) (.tup (SqT.of upd_same) (r.grow k (.upd G _ hp)))
theorem maxI_of : ∀ {ns : List Int} {m : Int}, maxI ns = some m → 0 < ns.length ∧ m ∈ ns ∧ ∀ y ∈ ns, y ≤ m
  | [], _, h => by cases h
  | a :: l, m, h => by
    unfold maxI at h
    cases e : maxI l with
    | none =>
      rw [e] at h
      cases h
      cases l with
      | nil => simp
      | cons b l =>
        unfold maxI at e
        split at e <;> cases e
    | some k =>
      rw [e] at h
      have h : some (if k < a then a else k) = some m := h
      obtain ⟨h1, h2, h3⟩ := maxI_of e
      cases h
      refine ⟨by simp, ?_, fun y hy => ?_⟩
      · split
        · simp
        · simp [h2]
      · rcases List.mem_cons.mp hy with rfl | hy
        · split <;> omega
        · have := h3 y hy
          split <;> omega
theorem minI_of : ∀ {ns : List Int} {m : Int}, minI ns = some m → 0 < ns.length ∧ m ∈ ns ∧ ∀ y ∈ ns, m ≤ y
  | [], _, h => by cases h
  | a :: l, m, h => by
    unfold minI at h
    cases e : minI l with
    | none =>
      rw [e] at h
      cases h
      cases l with
      | nil => simp
      | cons b l =>
        unfold minI at e
        split at e <;> cases e
    | some k =>
      rw [e] at h
      have h : some (if a < k then a else k) = some m := h
      obtain ⟨h1, h2, h3⟩ := minI_of e
      cases h
      refine ⟨by simp, ?_, fun y hy => ?_⟩
      · split
        · simp
        · simp [h2]
      · rcases List.mem_cons.mp hy with rfl | hy
        · split <;> omega
        · have := h3 y hy
          split <;> omega
def rSumT (K : PySem.W.Frag) : List V → Hp → VK → Prop := fun vs H Q => ∃ (a : Addr) (ns : List Int), vs = [V.ref a] ∧ SqT K H a (ns.map V.int) ∧ Q (.int ns.sum) H
theorem cr_sumT {X : Cx} (hc : X.calm = true) : CallR X (.builtin "sum") (rSumT X.K) := by
  intro pins s σ H vs us Q I r h
  obtain ⟨a, ns, rfl, hs, q⟩ := h
  obtain ⟨its, rv, hl, _⟩ := I.tuple hs
  rw [Vals.ref1 r]
  have hi := rv.ints
  obtain ⟨xs, e⟩ := hi.allInts.items
  have hn : numsOf (intItems xs).toList = ns := by rw [← e]; exact hi.numsOf
  rw [nums_intItems] at hn
  have hl : s.heap.IsTuple a its.toArray := hl
  rw [e] at hl
  refine PySem.W.ktm_sumG (I.ok.hd hc) hl fun h' tk t' hk => ?_
  rw [preSum_eq, List.take_of_length_le (by simp), hn]
  exact ⟨.int _, H, I.kept hk, ⟨_, rfl⟩, q⟩
theorem call_blt {X : Cx} {Γ : Mo} (hK : X.K = Γ.K) (f : Bi) (hc : f.cold = true → X.calm = true) : CallR X f.val (rBlt Γ f) := by
  have hK' : Γ.K = X.K := hK.symm
  intro pins s σ H xs us Q I r h
  obtain ⟨G, t, ds, k, rs, p⟩ := h
  cases f with
  | len =>
    obtain ⟨d, e, -, q⟩ := bltM_of p (by decide)
    cases rs with
    | nil => cases e
    | cons r1 rr =>
      cases rr with
      | cons _ _ => cases r1 <;> cases e
      | nil =>
        cases r1 with
        | @lst l ys es hz hl rl =>
          cases e
          exact call_len_seq pins s σ H _ us Q I r ⟨l, ys, rfl, .inl (SqL.of hl), pvF q k (by rw [rl.length]; exact .int _)⟩
        | @tup l ys es hl rl =>
          cases e
          exact call_len_seq pins s σ H _ us Q I r ⟨l, ys, rfl, .inr (by rw [← hK']; exact hl), pvF q k (by rw [rl.length]; exact .int _)⟩
        | str x =>
          obtain ⟨h1, rfl⟩ := ite_some (show (if sizeOk x.length = true then some (D.int x.length) else none) = some d from e)
          exact call_len_str pins s σ H _ us Q I r ⟨x, rfl, sizeOk_of h1, pvF q k (.int _)⟩
        | _ => cases e
  | abs =>
    obtain ⟨d, e, -, q⟩ := bltM_of p (by decide)
    cases rs with
    | nil => cases e
    | cons r1 rr =>
      cases rr with
      | cons _ _ => cases r1 <;> cases e
      | nil =>
        cases r1 with
        | int i => cases e; exact call_abs pins s σ H _ us Q I r ⟨i, rfl, pvF q k (.int _)⟩
        | _ => cases e
  | int =>
    obtain ⟨d, e, -, q⟩ := bltM_of p (by decide)
    cases rs with
    | nil => cases e
    | cons r1 rr =>
      cases rr with
      | cons _ _ => cases r1 <;> cases e
      | nil =>
        cases r1 with
        | int i => cases e; exact call_int1 pins s σ H _ us Q I r (.inl ⟨i, rfl, pvF q k (.int _)⟩)
        | bl i => cases e; exact call_int1 pins s σ H _ us Q I r (.inr ⟨i, rfl, pvF q k (.int _)⟩)
        | _ => cases e
  | max2 =>
    obtain ⟨d, e, -, q⟩ := bltM_of p (by decide)
    cases rs with
    | nil => cases e
    | cons r1 rr =>
      cases rr with
      | nil =>
        cases r1 with
        | @lst l ys es hz hl rl =>
          have e : ((D.ints es).bind maxI).map D.int = some d := e
          cases e0 : D.ints es with
          | none => rw [e0] at e; cases e
          | some bs =>
            rw [e0] at e
            have e : (maxI bs).map D.int = some d := e
            cases e1 : maxI bs with
            | none => rw [e1] at e; cases e
            | some m =>
              rw [e1] at e
              cases e
              have := ints_of rl e0
              subst this
              obtain ⟨p1, p2, p3⟩ := maxI_of e1
              refine cr_max (hc rfl) pins s σ H _ us Q I r ⟨l, bs, rfl, SqL.of hl, p1, fun m' h1 h2 => ?_⟩
              have : m' = m := by have := h2 m p2; have := p3 m' h1; omega
              rw [this]
              exact pvF q k (.int _)
        | _ => cases e
      | cons r2 rr =>
        cases rr with
        | cons _ _ => cases r1 <;> cases r2 <;> cases e
        | nil =>
          cases r1 with
          | int i =>
            cases r2 with
            | int j => cases e; exact call_max2 (hc rfl) pins s σ H _ us Q I r ⟨i, j, rfl, pvF q k (.int _)⟩
            | _ => cases e
          | _ => cases r2 <;> cases e
  | min2 =>
    obtain ⟨d, e, -, q⟩ := bltM_of p (by decide)
    cases rs with
    | nil => cases e
    | cons r1 rr =>
      cases rr with
      | nil =>
        cases r1 with
        | @lst l ys es hz hl rl =>
          have e : ((D.ints es).bind minI).map D.int = some d := e
          cases e0 : D.ints es with
          | none => rw [e0] at e; cases e
          | some bs =>
            rw [e0] at e
            have e : (minI bs).map D.int = some d := e
            cases e1 : minI bs with
            | none => rw [e1] at e; cases e
            | some m =>
              rw [e1] at e
              cases e
              have := ints_of rl e0
              subst this
              obtain ⟨p1, p2, p3⟩ := minI_of e1
              refine cr_min (hc rfl) pins s σ H _ us Q I r ⟨l, bs, rfl, SqL.of hl, p1, fun m' h1 h2 => ?_⟩
              have : m' = m := by have := h2 m p2; have := p3 m' h1; omega
              rw [this]
              exact pvF q k (.int _)
        | _ => cases e
      | cons r2 rr =>
        cases rr with
        | cons _ _ => cases r1 <;> cases r2 <;> cases e
        | nil =>
          cases r1 with
          | int i =>
            cases r2 with
            | int j => cases e; exact call_min2 (hc rfl) pins s σ H _ us Q I r ⟨i, j, rfl, pvF q k (.int _)⟩
            | _ => cases e
          | _ => cases r2 <;> cases e
  | gcd =>
    obtain ⟨d, e, -, q⟩ := bltM_of p (by decide)
    cases rs with
    | nil => cases e
    | cons r1 rr =>
      cases rr with
      | nil => cases r1 <;> cases e
      | cons r2 rr =>
        cases rr with
        | cons _ _ => cases r1 <;> cases r2 <;> cases e
        | nil =>
          cases r1 with
          | int i =>
            cases r2 with
            | int j => cases e; exact cr_gcd pins s σ H _ us Q I r ⟨i, j, rfl, pvF q k (.int _)⟩
            | _ => cases e
          | _ => cases r2 <;> cases e
  | tuple =>
    obtain ⟨d, e, -, q⟩ := bltM_of p (by decide)
    cases rs with
    | nil => cases e
    | cons r1 rr =>
      cases rr with
      | cons _ _ => cases r1 <;> cases e
      | nil =>
        cases r1 with
        | @lst l ys es hz hl rl => cases e; exact call_tuple_of pins s σ H _ us Q I r ⟨l, ys, rfl, .inl ⟨SqL.of hl, pvT q k rl⟩⟩
        | @tup l ys es hl rl => cases e; exact call_tuple_of pins s σ H _ us Q I r ⟨l, ys, rfl, .inr ⟨by rw [← hK']; exact hl, pvF q k (.tup hl rl)⟩⟩
        | _ => cases e
  | list =>
    cases rs with
    | nil => exact (show False from p).elim
    | cons r1 rr =>
      cases rr with
      | cons _ _ => cases r1 <;> exact (show False from p).elim
      | nil =>
        cases r1 with
        | @lst l ys es hz hl rl =>
          obtain ⟨-, q⟩ := (show t = t ∧ PostV Γ G H t true (.lst es) Q from p)
          exact call_list_of pins s σ H _ us Q I r ⟨l, ys, rfl, .inl (SqL.of hl), postL q k rl⟩
        | @tup l ys es hl rl =>
          obtain ⟨-, q⟩ := (show t = t ∧ PostV Γ G H t true (.lst es) Q from p)
          exact call_list_of pins s σ H _ us Q I r ⟨l, ys, rfl, .inr (by rw [← hK']; exact hl), postL q k rl⟩
        | @scr a ns hs =>
          cases t with
          | some _ => exact (show False from p).elim
          | none =>
            obtain ⟨-, q⟩ := (show (none : St2) = none ∧ PostV Γ G H none true (.lst (ns.map .int)) Q from p)
            exact call_list_of pins s σ H _ us Q I r ⟨a, ns.map V.int, rfl, .inl (by rw [← hK']; exact (k.scr a ns hs).sq), postL q k (rps_ints ns)⟩
        | _ => exact (show False from p).elim
  | all =>
    obtain ⟨d, e, -, q⟩ := bltM_of p (by decide)
    cases rs with
    | nil => cases e
    | cons r1 rr =>
      cases rr with
      | cons _ _ => cases r1 <;> cases e
      | nil =>
        cases r1 with
        | @lst l ys es hz hl rl =>
          have e : (D.bools es).map (fun bs => D.bl (bs.all id)) = some d := e
          cases e0 : D.bools es with
          | none => rw [e0] at e; cases e
          | some bs =>
            rw [e0] at e
            cases e
            have := bools_of rl e0
            subst this
            exact cr_all (hc rfl) pins s σ H _ us Q I r ⟨l, bs, rfl, SqL.of hl, pvF q k (.bl _)⟩
        | _ => cases e
  | any =>
    obtain ⟨d, e, -, q⟩ := bltM_of p (by decide)
    cases rs with
    | nil => cases e
    | cons r1 rr =>
      cases rr with
      | cons _ _ => cases r1 <;> cases e
      | nil =>
        cases r1 with
        | @lst l ys es hz hl rl =>
          have e : (D.bools es).map (fun bs => D.bl (bs.any id)) = some d := e
          cases e0 : D.bools es with
          | none => rw [e0] at e; cases e
          | some bs =>
            rw [e0] at e
            cases e
            have := bools_of rl e0
            subst this
            exact cr_any (hc rfl) pins s σ H _ us Q I r ⟨l, bs, rfl, SqL.of hl, pvF q k (.bl _)⟩
        | _ => cases e
  | sum =>
    obtain ⟨d, e, -, q⟩ := bltM_of p (by decide)
    cases rs with
    | nil => cases e
    | cons r1 rr =>
      cases rr with
      | cons _ _ => cases r1 <;> cases e
      | nil =>
        cases r1 with
        | @lst l ys es hz hl rl =>
          have e : (D.ints es).map (fun bs => D.int bs.sum) = some d := e
          cases e0 : D.ints es with
          | none => rw [e0] at e; cases e
          | some bs =>
            rw [e0] at e
            cases e
            have := ints_of rl e0
            subst this
            exact cr_sum (hc rfl) pins s σ H _ us Q I r ⟨l, bs, rfl, SqL.of hl, pvF q k (.int _)⟩
        | @tup l ys es hl rl =>
          have e : (D.ints es).map (fun bs => D.int bs.sum) = some d := e
          cases e0 : D.ints es with
          | none => rw [e0] at e; cases e
          | some bs =>
            rw [e0] at e
            cases e
            have := ints_of rl e0
            subst this
            exact cr_sumT (hc rfl) pins s σ H _ us Q I r ⟨l, bs, rfl, by rw [← hK']; exact hl, pvF q k (.int _)⟩
        | _ => cases e
  | srt =>
    obtain ⟨d, e, -, q⟩ := bltM_of p (by decide)
    cases rs with
    | nil => cases e
    | cons r1 rr =>
      cases rr with
      | cons _ _ => cases r1 <;> cases e
      | nil =>
        cases r1 with
        | @lst l ys es hz hl rl =>
          have e : (D.ints es).map (fun ns => D.lst ((PySem.W.sortI ns).map .int)) = some d := e
          cases e0 : D.ints es with
          | none => rw [e0] at e; cases e
          | some bs =>
            rw [e0] at e
            cases e
            have := ints_of rl e0
            subst this
            refine cr_sortedI pins s σ H _ us Q I r ⟨l, bs, rfl, SqL.of hl, fun ns' p hp hs hn => ?_⟩
            rw [PySem.W.eq_sortI hp hs]
            exact postL q k (rps_ints (PySem.W.sortI bs)) p hn
        | _ => cases e
  | stri =>
    obtain ⟨d, e, -, q⟩ := bltM_of p (by decide)
    cases rs with
    | nil => cases e
    | cons r1 rr =>
      cases rr with
      | cons _ _ => cases r1 <;> cases e
      | nil =>
        cases r1 with
        | int i =>
          have e : (if i.natAbs.log2 < 1920 then some (D.str (toString i)) else none) = some d := e
          by_cases h1 : i.natAbs.log2 < 1920
          · rw [if_pos h1] at e
            cases e
            exact call_str_int pins s σ H _ us Q I r ⟨i, rfl, h1, pvF q k (.str _)⟩
          · rw [if_neg h1] at e
            cases e
        | str x => cases e; exact SkE.call_str_str pins s σ H _ us Q I r ⟨x, rfl, pvF q k (.str _)⟩
        | _ => cases e
theorem atI_rps {Γ : Mo} {G : Gh} {H : Hp} {xs : List V} {ds : List D} {i : Int} {d : D} (r : Rps Γ G H xs ds) (h : atI ds i = some d) : ∃ v, atI xs i = some v ∧ Rp Γ G H v d := by
  unfold atI at h ⊢
  rw [r.length]
  cases e : ixN ds.length i with
  | none => rw [e] at h; cases h
  | some j =>
    rw [e] at h
    obtain ⟨v, e1, r1⟩ := r.get (show ds[j]? = some d from h)
    exact ⟨v, e1, r1⟩
def rIxX (Γ : Mo) : R2 := fun x y H Q => ∃ G s a b, SOk Γ G H s ∧ Rp Γ G H x a ∧ Rp Γ G H y b ∧ PostR Γ (fun _ _ _ _ => False) [] G H (ixD a b s) fun d s' => s' = s ∧ PostV Γ G H s false d Q
theorem ix_X {X : Cx} {Γ : Mo} (hK : X.K = Γ.K) : IxR X (rIxX Γ) := by
  have hK' : Γ.K = X.K := hK.symm
  intro value slice pins s σ H x y v u Q I rx ry h hs
  obtain ⟨G, t, a, b, k, r1, r2, p⟩ := h
  cases r1 with
  | @lst l ys es hz hl rl =>
    cases r2 with
    | int i =>
      obtain ⟨d, e, -, q⟩ := PostR.of (show PostR Γ (fun _ _ _ _ => False) [] G H (M.of (atI es i) t) fun d s' => s' = t ∧ PostV Γ G H t false d Q from p)
      obtain ⟨w, e1, rw1⟩ := atI_rps rl e
      exact ix_list value slice pins s σ H _ _ v u Q I rx ry ⟨l, ys, i, w, rfl, rfl, SqL.of hl, e1, pvF q k rw1⟩ hs
    | _ => exact (show False from p).elim
  | @tup l ys es hl rl =>
    cases r2 with
    | int i =>
      obtain ⟨d, e, -, q⟩ := PostR.of (show PostR Γ (fun _ _ _ _ => False) [] G H (M.of (atI es i) t) fun d s' => s' = t ∧ PostV Γ G H t false d Q from p)
      obtain ⟨w, e1, rw1⟩ := atI_rps rl e
      exact ix_tup value slice pins s σ H _ _ v u Q I rx ry ⟨l, ys, i, w, rfl, rfl, by rw [← hK']; exact hl, e1, pvF q k rw1⟩ hs
    | _ => exact (show False from p).elim
  | @cup l hl =>
    cases r2 with
    | int i =>
      cases t with
      | none => exact (show False from p).elim
      | some z =>
        obtain ⟨c, d⟩ := z
        have p : PostR Γ (fun _ _ _ _ => False) [] G H (if i = 0 then some (.ok (.int c), some (c, d)) else if i = 1 then some (.ok (.int d), some (c, d)) else none) fun d' s' => s' = some (c, d) ∧ PostV Γ G H (some (c, d)) false d' Q := p
        obtain ⟨l', e0, e1, _⟩ := k.cup
        rw [hl] at e0
        cases e0
        by_cases h0 : i = 0
        · subst h0
          rw [if_pos rfl] at p
          exact ix_list value slice pins s σ H _ _ v u Q I rx ry ⟨l, _, 0, .int c, rfl, rfl, SqL.of e1, rfl, pvF p.2 k (.int c)⟩ hs
        · rw [if_neg h0] at p
          by_cases h1 : i = 1
          · subst h1
            rw [if_pos rfl] at p
            exact ix_list value slice pins s σ H _ _ v u Q I rx ry ⟨l, _, 1, .int d, rfl, rfl, SqL.of e1, rfl, pvF p.2 k (.int d)⟩ hs
          · rw [if_neg h1] at p
            exact (show False from p).elim
    | _ => exact (show False from p).elim
  | _ => cases r2 <;> exact (show False from p).elim
theorem cut_rps {Γ : Mo} {G : Gh} {H : Hp} {xs : List V} {ds : List D} (r : Rps Γ G H xs ds) (lo hi : Option Int) : Rps Γ G H (cutV xs lo hi) (cutD ds lo hi) := by
  unfold cutV cutD
  rw [r.length]
  exact (r.drop _).take _
def rSlX (Γ : Mo) : V → Option Int → Option Int → Hp → VK → Prop := fun x lo hi H Q => ∃ G s a d, SOk Γ G H s ∧ Rp Γ G H x a ∧ slD a lo hi = some d ∧ PostV Γ G H s true d Q
theorem sl_X {X : Cx} {Γ : Mo} (hK : X.K = Γ.K) : L2.SlR X (rSlX Γ) := by
  have hK' : Γ.K = X.K := hK.symm
  intro pins s σ H x v vl vu lo hi sl Q I rx hs pl pu h
  obtain ⟨G, t, a, d, k, r, e, p⟩ := h
  cases r with
  | @lst l ys es hz hl rl =>
    cases e
    exact sl_list pins s σ H _ v vl vu lo hi sl Q I rx hs pl pu ⟨l, ys, rfl, SqL.of hl, postL p k (cut_rps rl lo hi)⟩
  | @tup l ys es hl rl =>
    cases e
    refine sl_tupA pins s σ H _ v vl vu lo hi sl Q I rx hs pl pu ⟨l, ys, rfl, by rw [← hK']; exact hl, fun w => ?_, fun _ => postT p k (cut_rps rl lo hi)⟩
    refine postAt p k (fun _ z => nomatch z) ?_
    have ec : cutD es lo hi = es := by
      unfold cutD
      rw [rl.length] at w
      rw [w.1, w.2]
      simp
    rw [ec]
    exact .tup hl rl
  | _ => cases e
end Co
set_option Elab.async false
set_option linter.all false
set_option maxRecDepth 100000
set_option maxHeartbeats 4000000
namespace Co
open PySem PySem.Spec PyProof.Rows L2
inductive GK where
  | fn | cls | val (d : D) | blt (f : Bi) | isi | ty (t : String) | rng | enu | zip | no
structure Sc where
  sc : Scope
  vis : List Nat
  gls : List Nat
  cold : Bool
  calls : Bool
  act : Bool
  lam : Bool
def clsV (Γ : Mo) (K : Nat → GK) (t : Nat) : V := match K t with
  | .ty T => .ty T
  | _ => .ref (Γ.at_ t)
def rIsiX (Γ : Mo) (K : Nat → GK) (C : Cl) (t : Nat) : List V → Hp → VK → Prop := fun vs H Q => ∃ v G s d b, vs = [v, clsV Γ K t] ∧ SOk Γ G H s ∧ Rp Γ G H v d ∧ C.cls t d = some b ∧ Q (.bl b) H
def spOf (Γ : Mo) (c : List D → M D) (n : Nat) : Sp := fun vs H Q E => ∃ G ds s, Rps Γ G H vs ds ∧ SOk Γ G H s ∧ vs.length = n ∧ Post Γ (fun c d _ h => E c d h) [] G H false (c ds s) Q
def GFact (Γ : Mo) (GN : List Str) (K : Nat → GK) (mg : Str → Option Value) (g : Nat) : Prop := match K g with
  | .fn => mg (nm GN g) = some (.ref (Γ.at_ g)) ∧ PySem.W.keepIn Γ.K (.ref (Γ.at_ g)) = true
  | .cls => mg (nm GN g) = some (.ref (Γ.at_ g))
  | .val d => ∃ u v, mg (nm GN g) = some u ∧ RelV v u ∧ ∀ G H s, SOk Γ G H s → Rp Γ G H v d
  | .blt .gcd => mg (nm GN g) = some (.builtin "math.gcd")
  | .blt f => mg (nm GN g) = none ∧ bootBuiltins (nm GN g) = some f.val
  | .isi => mg (nm GN g) = none ∧ bootBuiltins (nm GN g) = some (.builtin "isinstance")
  | .ty t => mg (nm GN g) = none ∧ bootBuiltins (nm GN g) = some (.type t)
  | .rng => nm GN g = "range" ∧ mg "range" = none
  | .enu => nm GN g = "enumerate" ∧ mg "enumerate" = none
  | .zip => nm GN g = "zip" ∧ mg "zip" = none
  | .no => True
structure Like (X Y : Cx) : Prop where
  prog : Y.prog = X.prog
  w : Y.w = X.w
  K : Y.K = X.K
  mg : Y.mg = X.mg
  base : Y.base = X.base
  A : Y.A = X.A
  calm : Y.calm = X.calm
  pn : X.calm = false → Y.pn = X.pn
theorem Like.refl (X : Cx) : Like X X := ⟨rfl, rfl, rfl, rfl, rfl, rfl, rfl, fun _ => rfl⟩
structure Sib (X Y : Cx) : Prop where
  prog : Y.prog = X.prog
  w : Y.w = X.w
  K : Y.K = X.K
  mg : Y.mg = X.mg
  base : Y.base = X.base
  A : Y.A = X.A
  calm : Y.calm = X.calm
  N : Y.N = X.N
  code : Y.env.code = X.env.code
  qual : Y.env.qual = X.env.qual
theorem Sib.refl (X : Cx) : Sib X X := ⟨rfl, rfl, rfl, rfl, rfl, rfl, rfl, rfl, rfl, rfl⟩
theorem Sib.trans {X Y Z : Cx} (a : Sib X Y) (b : Sib Y Z) : Sib X Z := ⟨b.prog.trans a.prog, b.w.trans a.w, b.K.trans a.K, b.mg.trans a.mg, b.base.trans a.base, b.A.trans a.A, b.calm.trans a.calm, b.N.trans a.N, b.code.trans a.code, b.qual.trans a.qual⟩
structure Pl (x : Expr) : Prop where
  st : ∀ rest env, starEach (x :: rest) env = (false, eval x env) :: starEach rest env
  fo : ∀ env v, foldedSetIterable x env v = pure v
  bm : ∀ op, behindInMarks op x = false
  ix : ∀ o i, subscripted x false o i = operate [o, i] (getItem o i)
  ae : ∀ rest env, assignEach (x :: rest) env = (false, assign x env) :: assignEach rest env
  sb : ∀ o sp env v, assign (.Subscript o x sp) env v = (do
      let ov ← holding [v] (eval o env)
      let iv ← holding [v, ov] (eval x env)
      standAt sp
      holding [v, ov, iv] (setItem ov iv v)
      release [v, ov, iv] [])
section
variable (N GN : List Str)
theorem pl_back : ∀ e : E, Pl (back N GN e)
  | .v _ _ => ⟨fun _ _ => rfl, fun _ _ => rfl, fun _ => rfl, fun _ _ => rfl, fun _ _ => rfl, fun _ _ _ _ => rfl⟩
  | .int _ _ _ => ⟨fun _ _ => rfl, fun _ _ => rfl, fun _ => rfl, fun _ _ => rfl, fun _ _ => rfl, fun _ _ _ _ => rfl⟩
  | .bl _ _ _ => ⟨fun _ _ => rfl, fun _ _ => rfl, fun _ => rfl, fun _ _ => rfl, fun _ _ => rfl, fun _ _ _ _ => rfl⟩
  | .non _ _ => ⟨fun _ _ => rfl, fun _ _ => rfl, fun _ => rfl, fun _ _ => rfl, fun _ _ => rfl, fun _ _ _ _ => rfl⟩
  | .str _ _ _ => ⟨fun _ _ => rfl, fun _ _ => rfl, fun _ => rfl, fun _ _ => rfl, fun _ _ => rfl, fun _ _ _ _ => rfl⟩
  | .gl _ _ _ => ⟨fun _ _ => rfl, fun _ _ => rfl, fun _ => rfl, fun _ _ => rfl, fun _ _ => rfl, fun _ _ _ _ => rfl⟩
  | .bin _ _ _ _ => ⟨fun _ _ => rfl, fun _ _ => rfl, fun _ => rfl, fun _ _ => rfl, fun _ _ => rfl, fun _ _ _ _ => rfl⟩
  | .neg _ _ => ⟨fun _ _ => rfl, fun _ _ => rfl, fun _ => rfl, fun _ _ => rfl, fun _ _ => rfl, fun _ _ _ _ => rfl⟩
  | .not _ _ => ⟨fun _ _ => rfl, fun _ _ => rfl, fun _ => rfl, fun _ _ => rfl, fun _ _ => rfl, fun _ _ _ _ => rfl⟩
  | .cmp _ _ _ _ => ⟨fun _ _ => rfl, fun _ _ => rfl, fun _ => rfl, fun _ _ => rfl, fun _ _ => rfl, fun _ _ _ _ => rfl⟩
  | .cmp2 _ _ _ _ _ _ => ⟨fun _ _ => rfl, fun _ _ => rfl, fun _ => rfl, fun _ _ => rfl, fun _ _ => rfl, fun _ _ _ _ => rfl⟩
  | .bop _ _ _ => ⟨fun _ _ => rfl, fun _ _ => rfl, fun _ => rfl, fun _ _ => rfl, fun _ _ => rfl, fun _ _ _ _ => rfl⟩
  | .ife _ _ _ _ => ⟨fun _ _ => rfl, fun _ _ => rfl, fun _ => rfl, fun _ _ => rfl, fun _ _ => rfl, fun _ _ _ _ => rfl⟩
  | .tup _ _ _ => ⟨fun _ _ => rfl, fun _ _ => rfl, fun _ => rfl, fun _ _ => rfl, fun _ _ => rfl, fun _ _ _ _ => rfl⟩
  | .lst _ _ => ⟨fun _ _ => rfl, fun _ _ => rfl, fun _ => rfl, fun _ _ => rfl, fun _ _ => rfl, fun _ _ _ _ => rfl⟩
  | .ix _ _ _ => ⟨fun _ _ => rfl, fun _ _ => rfl, fun _ => rfl, fun _ _ => rfl, fun _ _ => rfl, fun _ _ _ _ => rfl⟩
  | .sl _ _ _ _ _ => ⟨fun _ _ => rfl, fun _ _ => rfl, fun _ => rfl, fun _ _ => rfl, fun _ _ => rfl, fun _ _ _ _ => rfl⟩
  | .rev _ _ _ _ _ _ => ⟨fun _ _ => rfl, fun _ _ => rfl, fun _ => rfl, fun _ _ => rfl, fun _ _ => rfl, fun _ _ _ _ => rfl⟩
  | .call _ _ _ _ => ⟨fun _ _ => rfl, fun _ _ => rfl, fun _ => rfl, fun _ _ => rfl, fun _ _ => rfl, fun _ _ _ _ => rfl⟩
  | .callv _ _ _ _ => ⟨fun _ _ => rfl, fun _ _ => rfl, fun _ => rfl, fun _ _ => rfl, fun _ _ => rfl, fun _ _ _ _ => rfl⟩
  | .act _ _ _ => ⟨fun _ _ => rfl, fun _ _ => rfl, fun _ => rfl, fun _ _ => rfl, fun _ _ => rfl, fun _ _ _ _ => rfl⟩
  | .lam _ _ _ _ _ _ _ _ _ => ⟨fun _ _ => rfl, fun _ _ => rfl, fun _ => rfl, fun _ _ => rfl, fun _ _ => rfl, fun _ _ _ _ => rfl⟩
  | .blt _ _ _ _ _ => ⟨fun _ _ => rfl, fun _ _ => rfl, fun _ => rfl, fun _ _ => rfl, fun _ _ => rfl, fun _ _ _ _ => rfl⟩
  | .isi _ _ _ _ _ _ => ⟨fun _ _ => rfl, fun _ _ => rfl, fun _ => rfl, fun _ _ => rfl, fun _ _ => rfl, fun _ _ _ _ => rfl⟩
  | .lc _ _ _ _ _ _ _ _ _ => ⟨fun _ _ => rfl, fun _ _ => rfl, fun _ => rfl, fun _ _ => rfl, fun _ _ => rfl, fun _ _ _ _ => rfl⟩
  | .bor _ e => pl_back e
  | .ncup _ _ _ => ⟨fun _ _ => rfl, fun _ _ => rfl, fun _ => rfl, fun _ _ => rfl, fun _ _ => rfl, fun _ _ _ _ => rfl⟩
  | .join _ _ _ _ _ _ => ⟨fun _ _ => rfl, fun _ _ => rfl, fun _ => rfl, fun _ _ => rfl, fun _ _ => rfl, fun _ _ _ _ => rfl⟩
  | .dget _ _ _ _ _ _ => ⟨fun _ _ => rfl, fun _ _ => rfl, fun _ => rfl, fun _ _ => rfl, fun _ _ => rfl, fun _ _ _ _ => rfl⟩
  | .dgt _ _ _ _ _ _ _ _ => ⟨fun _ _ => rfl, fun _ _ => rfl, fun _ => rfl, fun _ _ => rfl, fun _ _ => rfl, fun _ _ _ _ => rfl⟩
theorem star_backs (pos : Pos) (env : Env) : ∀ es : Es, (backTo pos (starEach (backs N GN es) env)).any (·.1) = false
  | .nil => rfl
  | .cons e es => by
    show (backTo pos (starEach (back N GN e :: backs N GN es) env)).any (·.1) = false
    rw [(pl_back N GN e).st]
    show (false || (backTo pos (starEach (backs N GN es) env)).any (·.1)) = false
    rw [star_backs pos env es]; rfl
def E.plainT : E → Bool
  | .not _ _ => false
  | .bop _ _ _ => false
  | .ife _ _ _ _ => false
  | .cmp _ _ _ _ => false
  | .cmp2 _ _ _ _ _ _ => false
  | .bor _ e => e.plainT
  | _ => true
theorem tru_back (env : Env) (whole : Sem Value) : ∀ e : E, e.plainT = true → isTrue (back N GN e) env whole = (do let v ← whole; standAt (back N GN e).pos; holding [v] (truthy v))
  | .v _ _, _ => rfl
  | .int _ _ _, _ => rfl
  | .bl _ _ _, _ => rfl
  | .non _ _, _ => rfl
  | .str _ _ _, _ => rfl
  | .gl _ _ _, _ => rfl
  | .bin _ _ _ _, _ => rfl
  | .neg _ _, _ => rfl
  | .tup _ _ _, _ => rfl
  | .lst _ _, _ => rfl
  | .ix _ _ _, _ => rfl
  | .sl _ _ _ _ _, _ => rfl
  | .rev _ _ _ _ _ _, _ => rfl
  | .call _ _ _ _, _ => rfl
  | .callv _ _ _ _, _ => rfl
  | .act _ _ _, _ => rfl
  | .lam _ _ _ _ _ _ _ _ _, _ => rfl
  | .blt _ _ _ _ _, _ => rfl
  | .isi _ _ _ _ _ _, _ => rfl
  | .lc _ _ _ _ _ _ _ _ _, _ => rfl
  | .bor _ e, h => tru_back env whole e h
  | .ncup _ _ _, _ => rfl
  | .join _ _ _ _ _ _, _ => rfl
  | .dget _ _ _ _ _ _, _ => rfl
  | .dgt _ _ _ _ _ _ _ _, _ => rfl
  | .not _ _, h => by cases h
  | .bop _ _ _, h => by cases h
  | .ife _ _ _ _, h => by cases h
  | .cmp _ _ _ _, h => by cases h
  | .cmp2 _ _ _ _ _ _, h => by cases h
end
def E.noLc : E → Bool
  | .lc _ _ _ _ _ _ _ _ _ => false
  | .bor _ e => e.noLc
  | _ => true
theorem sw_back (N GN : List Str) (t : Option Expr) (l : Nat) (env : Env) : ∀ e : E, e.noLc = true → swapsWith (back N GN e) t l env = pure false
  | .v _ _, _ => rfl
  | .int _ _ _, _ => rfl
  | .bl _ _ _, _ => rfl
  | .non _ _, _ => rfl
  | .str _ _ _, _ => rfl
  | .gl _ _ _, _ => rfl
  | .bin _ _ _ _, _ => rfl
  | .neg _ _, _ => rfl
  | .tup _ _ _, _ => rfl
  | .lst _ _, _ => rfl
  | .ix _ _ _, _ => rfl
  | .sl _ _ _ _ _, _ => rfl
  | .rev _ _ _ _ _ _, _ => rfl
  | .call _ _ _ _, _ => rfl
  | .callv _ _ _ _, _ => rfl
  | .act _ _ _, _ => rfl
  | .lam _ _ _ _ _ _ _ _ _, _ => rfl
  | .blt _ _ _ _ _, _ => rfl
  | .isi _ _ _ _ _ _, _ => rfl
  | .lc _ _ _ _ _ _ _ _ _, h => by cases h
  | .bor _ e, h => sw_back N GN t l env e h
  | .ncup _ _ _, _ => rfl
  | .join _ _ _ _ _ _, _ => rfl
  | .dget _ _ _ _ _ _, _ => rfl
  | .dgt _ _ _ _ _ _ _ _, _ => rfl
  | .not _ _, _ => rfl
  | .bop _ _ _, _ => rfl
  | .ife _ _ _ _, _ => rfl
  | .cmp _ _ _ _, _ => rfl
  | .cmp2 _ _ _ _ _ _, _ => rfl
def GK.isFn : GK → Bool
  | .fn => true
  | _ => false
def GK.isBlt (f : Bi) : GK → Bool
  | .blt f' => decide (f = f')
  | _ => false
def GK.isIsi : GK → Bool
  | .isi => true
  | _ => false
def GK.isTy : GK → Bool
  | .ty _ => true
  | .cls => true
  | _ => false
def GK.isRng : GK → Bool
  | .rng => true
  | _ => false
def GK.isEnu : GK → Bool
  | .enu => true
  | _ => false
def GK.isZip : GK → Bool
  | .zip => true
  | _ => false
def visB (N : List Str) (sc : Scope) (vis : List Nat) : Bool := vis.all fun i => match N[i]? with
  | some x => (match sc.names.lookup x with | some .local => true | some .cell => true | some .free => true | _ => false) && (!(x == ("__debug__" : Str)) && !(x == ("__classdict__" : Str)))
  | none => false
def glsB (GN : List Str) (sc : Scope) (gls : List Nat) : Bool := gls.all fun g => decide (sc.names.lookup (nm GN g) = some .globalImplicit) && (!(nm GN g == ("__debug__" : Str)) && !decide (nm GN g = "__name__"))
theorem visB_ok {N : List Str} {sc : Scope} {vis : List Nat} (h : visB N sc vis = true) : ∀ i ∈ vis, ∃ x, N[i]? = some x ∧ Vis sc x ∧ (x == ("__debug__" : Str)) = false ∧ (x == ("__classdict__" : Str)) = false := fun i hi => by
  have h1 := List.all_eq_true.mp h i hi
  cases e : N[i]? with
  | none => rw [e] at h1; cases h1
  | some x =>
    rw [e] at h1
    obtain ⟨h2, h3⟩ := Bool.and_eq_true_iff.mp h1
    obtain ⟨h4, h5⟩ := Bool.and_eq_true_iff.mp h3
    refine ⟨x, rfl, ?_, by simpa using h4, by simpa using h5⟩
    cases q : sc.names.lookup x with
    | none => rw [q] at h2; cases h2
    | some k =>
      rw [q] at h2
      cases k with
      | «local» => exact .inl q
      | cell => exact .inr (.inl q)
      | free => exact .inr (.inr q)
      | globalExplicit => cases h2
      | globalImplicit => cases h2
theorem glsB_ok {GN : List Str} {sc : Scope} {gls : List Nat} (h : glsB GN sc gls = true) : ∀ g ∈ gls, sc.names.lookup (nm GN g) = some .globalImplicit ∧ (nm GN g == ("__debug__" : Str)) = false ∧ nm GN g ≠ "__name__" := fun g hg => by
  have h1 := List.all_eq_true.mp h g hg
  obtain ⟨h2, h3⟩ := Bool.and_eq_true_iff.mp h1
  obtain ⟨h4, h5⟩ := Bool.and_eq_true_iff.mp h3
  exact ⟨of_decide_eq_true h2, by simpa using h4, by simpa using h5⟩
mutual
def T.ok (w : List Nat) : T → Bool
  | .nm i _ => w.contains i
  | .tp ts _ _ => ts.ok w
def Ts.ok (w : List Nat) : Ts → Bool
  | .nil => true
  | .cons t ts => t.ok w && ts.ok w
end
def stoB (N : List Str) (sc lsc : Scope) (w : List Nat) : Bool := w.all fun i => match N[i]? with
  | some x => (match sc.names.lookup x with | some .local => true | some .cell => lsc.names.lookup x == some .cell | _ => false)
  | none => false
def ownP (N : List Str) (own : List Nat) : List (Str × Nat) := own.map fun i => (nm N i, i)
def T.isTp : T → Bool
  | .tp _ _ _ => true
  | _ => false
mutual
def D.same : D → D → Bool
  | .non, .non => true
  | .bl a, .bl b => decide (a = b)
  | .int i, .int j => decide (i = j)
  | .str x, .str y => decide (x = y)
  | .tup a, .tup b => D.sames a b
  | .fn a, .fn b => decide (a = b)
  | _, _ => false
def D.sames : List D → List D → Bool
  | [], [] => true
  | a :: as, b :: bs => D.same a b && D.sames as bs
  | _, _ => false
end
mutual
theorem D.same_eq : ∀ a b : D, D.same a b = true → a = b
  | .non, b, h => by cases b <;> simp_all [D.same]
  | .bl _, b, h => by cases b <;> simp_all [D.same]
  | .int _, b, h => by cases b <;> simp_all [D.same]
  | .str _, b, h => by cases b <;> simp_all [D.same]
  | .fn _, b, h => by cases b <;> simp_all [D.same]
  | .tup x, b, h => by
    cases b with
    | tup y => rw [D.same] at h; rw [D.sames_eq x y h]
    | _ => simp [D.same] at h
  | .lst _, b, h => by cases b <;> simp_all [D.same]
  | .cup, b, h => by cases b <;> simp_all [D.same]
  | .thk, b, h => by cases b <;> simp_all [D.same]
  | .exc _ _, b, h => by cases b <;> simp_all [D.same]
  | .scr _, b, h => by cases b <;> simp_all [D.same]
theorem D.sames_eq : ∀ a b : List D, D.sames a b = true → a = b
  | [], [], _ => rfl
  | [], _ :: _, h => by simp [D.sames] at h
  | _ :: _, [], h => by simp [D.sames] at h
  | a :: as, b :: bs, h => by
    rw [D.sames, Bool.and_eq_true_iff] at h
    rw [D.same_eq a b h.1, D.sames_eq as bs h.2]
end
def noPar : Arguments → Bool
  | ⟨[], [], none, [], [], none, []⟩ => true
  | _ => false
mutual
def okE (N GN : List Str) (K : Nat → GK) (s : Sc) : E → Bool
  | .v i _ => s.vis.contains i
  | .int _ _ _ => true
  | .bl _ _ _ => true
  | .non _ _ => true
  | .str _ _ _ => true
  | .gl g d _ => s.gls.contains g && (match K g with | .val x => D.same x d | .fn => D.same (.fn g) d | _ => false)
  | .bin _ a b _ => okE N GN K s a && okE N GN K s b
  | .neg a _ => okE N GN K s a
  | .not a _ => okE N GN K s a
  | .cmp _ a b _ => okE N GN K s a && okE N GN K s b
  | .cmp2 _ _ a b c _ => okE N GN K s a && (okE N GN K s b && okE N GN K s c)
  | .bop _ es _ => (match es with | .nil => false | _ => true) && okEs N GN K s es
  | .ife c a b _ => okE N GN K s c && (okE N GN K s a && okE N GN K s b)
  | .tup es _ _ => okEs N GN K s es
  | .lst es _ => okEs N GN K s es
  | .ix a i _ => okE N GN K s a && okE N GN K s i
  | .sl a lo hi _ _ => okE N GN K s a && (okO N GN K s lo && okO N GN K s hi)
  | .rev a _ _ _ _ _ => okE N GN K s a
  | .call g es _ _ => s.calls && (s.gls.contains g && ((K g).isFn && (true && okEs N GN K s es)))
  | .callv i es _ _ => s.calls && (s.vis.contains i && ((match es with | .nil => false | _ => true) && okEs N GN K s es))
  | .act i _ _ => s.act && s.vis.contains i
  | .lam g ps body lsc vis gls _ _ _ => s.lam && (s.gls.contains g && ((K g).isFn && (LamX.lamSB s.sc lsc && (visB N lsc vis && (glsB GN lsc gls && (noPar ps && okE N GN K { sc := lsc, vis := vis, gls := gls, cold := true, calls := true, act := false, lam := false } body))))))
  | .blt f g es _ _ => s.gls.contains g && ((K g).isBlt f && ((!f.cold || s.cold) && ((match es with | .nil => false | _ => true) && okEs N GN K s es)))
  | .isi g a t _ _ _ => s.gls.contains g && (s.gls.contains t && ((K g).isIsi && ((K t).isTy && okE N GN K s a)))
  | .lc elt t it cs lsc own vis gls _ => okI N GN K s t.isTp it && (blkC N s.sc lsc (ownP N own) && (visB N (relS lsc s.sc) vis && (glsB GN (relS lsc s.sc) gls && (t.ok own && (stoB N (relS lsc s.sc) lsc own && (own.all (fun i => decide (i < N.length)) &&
      (okE N GN K { sc := relS lsc s.sc, vis := vis, gls := gls, cold := s.cold, calls := s.calls, act := false, lam := s.lam } elt && okEs N GN K { sc := relS lsc s.sc, vis := vis, gls := gls, cold := s.cold, calls := s.calls, act := false, lam := s.lam } cs &&
        (match cs with | .nil => true | .cons _ .nil => true | _ => false))))))))
  | .bor i e => s.vis.contains i && okE N GN K s e
  | .ncup a b _ => okE N GN K s a && okE N GN K s b
  | .join _ _ a _ ap p => okE N GN K s a && (ap.endLine == p.line)
  | .dget i es _ _ _ _ => s.vis.contains i && okEs N GN K s es
  | .dgt i es _ _ e _ ap p => s.vis.contains i && (okEs N GN K s es && (okE N GN K s e && (ap.endLine == p.line)))
def okEs (N GN : List Str) (K : Nat → GK) (s : Sc) : Es → Bool
  | .nil => true
  | .cons e es => okE N GN K s e && okEs N GN K s es
def okO (N GN : List Str) (K : Nat → GK) (s : Sc) : Oe → Bool
  | .no => true
  | .so e => okE N GN K s e
def okI (N GN : List Str) (K : Nat → GK) (s : Sc) (tp : Bool) : I → Bool
  | .seq e => okE N GN K s e
  | .rg1 g a _ _ => s.cold && (s.gls.contains g && ((K g).isRng && okE N GN K s a))
  | .rg2 g a b _ _ => s.cold && (s.gls.contains g && ((K g).isRng && (okE N GN K s a && okE N GN K s b)))
  | .rg3 g a b c _ _ => s.cold && (s.gls.contains g && ((K g).isRng && (okE N GN K s a && (okE N GN K s b && okE N GN K s c))))
  | .en g a _ _ => tp && (s.cold && (s.gls.contains g && ((K g).isEnu && okE N GN K s a)))
  | .zp g a b _ _ => tp && (s.cold && (s.gls.contains g && ((K g).isZip && (okE N GN K s a && okE N GN K s b))))
end
structure Cxt (Γ : Mo) (N GN : List Str) (K : Nat → GK) (C : Cl) (W : WX) (s : Sc) (X : Cx) : Prop where
  hK : X.K = Γ.K
  md : Md X
  cold : s.cold = true → X.calm = true
  hu : X.A.units + 66 < cLine
  hN : X.N = N
  nd : N.Nodup
  tk : L2N.Takes X W
  sc : X.env.scope = s.sc
  gf : ∀ g, GFact Γ GN K X.mg g
  isi : ∀ Y, Like X Y → ∀ t, CallR Y (.builtin "isinstance") (rIsiX Γ K C t)
  fns : s.calls = true → ∀ g, (K g ≠ .fn ∧ C.fn g = false) ∨ (K g = .fn ∧ ∃ k fd ps, FnOk X.prog X.w X.K X.mg X.base (L2N.CX X.prog X.w) k (Γ.at_ g) fd ps (spOf Γ (C.c g) ps.length) ∧ Room k X.A ∧ Binds X.K fd ps [] ∧ ∀ ds t, ds.length ≠ ps.length → C.c g ds t = none)
  vis : ∀ i ∈ s.vis, ∃ x, N[i]? = some x ∧ Vis s.sc x ∧ (x == ("__debug__" : Str)) = false ∧ (x == ("__classdict__" : Str)) = false
  gls : ∀ g ∈ s.gls, s.sc.names.lookup (nm GN g) = some .globalImplicit ∧ (nm GN g == ("__debug__" : Str)) = false ∧ nm GN g ≠ "__name__"
  act : s.act = true → ∀ (W' : WX) (pn : List (Addr × Obj)) (xe : Value → Shared → Prop), L2N.Takes (X.tr pn xe) W' → ∀ i gp p, i ∈ s.vis → PE (X.tr pn xe) (.Call (.Name (nm N i) gp) [] [] p) (rd Γ W' false (ev C (.act i gp p)))
  lam : s.lam = true → ∀ (Y : Cx) (W' : WX) (s' : Sc), Sib X Y → L2N.Takes Y W' → Y.env.scope = s'.sc → (∀ g ∈ s'.gls, s'.sc.names.lookup (nm GN g) = some .globalImplicit ∧ (nm GN g == ("__debug__" : Str)) = false ∧ nm GN g ≠ "__name__") →
    ∀ g ps body lsc vis gls gp lp p, okE N GN K s' (.lam g ps body lsc vis gls gp lp p) = true → PE Y (back N GN (.lam g ps body lsc vis gls gp lp p)) (rd Γ W' false (ev C (.lam g ps body lsc vis gls gp lp p)))
end Co
set_option Elab.async false
set_option linter.all false
set_option maxRecDepth 100000
set_option maxHeartbeats 4000000
namespace Co
open PySem PySem.Spec PyProof.Rows L2 HotX L2H
theorem nm_of {N : List Str} {i : Nat} {x : Str} (h : N[i]? = some x) : nm N i = x := by unfold nm; rw [List.getD_eq_getElem?_getD, h]; rfl
theorem and3 {a b c : Bool} (h : (a && (b && c)) = true) : a = true ∧ b = true ∧ c = true := by
  obtain ⟨h1, h2⟩ := Bool.and_eq_true_iff.mp h
  obtain ⟨h3, h4⟩ := Bool.and_eq_true_iff.mp h2
  exact ⟨h1, h3, h4⟩
section
variable {Γ : Mo} {N GN : List Str} {K : Nat → GK} {C : Cl} {W : WX} {s : Sc} {X : Cx}
theorem Cxt.var (c : Cxt Γ N GN K C W s X) {i : Nat} (h : s.vis.contains i = true) : X.N[i]? = some (nm N i) ∧ Vis X.env.scope (nm N i) ∧ (nm N i == ("__debug__" : Str)) = false ∧ (nm N i == ("__classdict__" : Str)) = false := by
  obtain ⟨x, hx, hv, h1, h2⟩ := c.vis i (by simpa using h)
  rw [nm_of hx, c.hN, c.sc]
  exact ⟨hx, hv, h1, h2⟩
theorem Cxt.gl (c : Cxt Γ N GN K C W s X) {g : Nat} (h : s.gls.contains g = true) : Gl X (nm GN g) ∧ (nm GN g == ("__debug__" : Str)) = false ∧ nm GN g ≠ "__name__" := by
  obtain ⟨a, b, d⟩ := c.gls g (by simpa using h)
  refine ⟨?_, b, d⟩
  show X.env.scope.names.lookup (nm GN g) = some .globalImplicit
  rw [c.sc]; exact a
theorem rd_of_T {m : En → M D} {σ : L2.St} {H : Hp} {Q : Bool → Hp → Prop} (fr : Bool) (h : rdT Γ W m σ H Q) : rd Γ W fr m σ H fun x H1 => ∃ b, x = .bl b ∧ Q b H1 := by
  obtain ⟨env, G, t, er, k, p⟩ := h
  refine ⟨env, G, t, er, k, PostR.mono (.refl G H) (fun d s' hd => ?_) p⟩
  obtain ⟨b, rfl, q⟩ := hd
  have z : ∀ v G' H', Grow G H G' H' → SOk Γ G' H' s' → Rp Γ G' H' v (.bl b) → ∃ b, v = .bl b ∧ Q b H' := fun v G' H' g k r => by
    cases r; exact ⟨b, rfl, q G' H' g k⟩
  cases fr <;> exact z
theorem pt_plain {e : E} {fr : Bool} (h : PE X (back N GN e) (rd Γ W fr (ev C e))) (hp : e.plainT = true) : PT X (back N GN e) (rdT Γ W (ev C e)) :=
  PT.imp (pt_val h (fun whole => tru_back N GN X.env whole e hp)) fun σ H Q q => rd_of_T fr q
theorem e_v (c : Cxt Γ N GN K C W s X) {i : Nat} {p : Pos} (h : s.vis.contains i = true) : PE X (back N GN (.v i p)) (rd Γ W false (ev C (.v i p))) := by
  obtain ⟨hx, hv, h1, h2⟩ := c.var h
  refine PE.imp (pe_var (pos := p) hx hv h1 h2) fun σ H Q ⟨env, G, t, er, k, p⟩ => ?_
  obtain ⟨d, e1, q⟩ := PostR.of (show PostR Γ W σ G H (M.of (env.get i) t) _ from p)
  obtain ⟨v, e2, r⟩ := er.get e1
  exact ⟨v, e2, pvF q k r⟩
theorem e_c {e : E} {v : V} {d : D} (h : PE X (back N GN e) (tC v)) (he : ∀ env, ev C e env = M.pure d) (r : ∀ G H s, SOk Γ G H s → Rp Γ G H v d) : PE X (back N GN e) (rd Γ W false (ev C e)) := by
  refine PE.imp h fun σ H Q ⟨env, G, t, er, k, p⟩ => ?_
  rw [he] at p
  exact pvF (show PostV Γ G H t false d Q from p) k (r G H t k)
theorem e_gl (c : Cxt Γ N GN K C W s X) {g : Nat} {d : D} {p : Pos} (h : okE N GN K s (.gl g d p) = true) : PE X (back N GN (.gl g d p)) (rd Γ W false (ev C (.gl g d p))) := by
  obtain ⟨h1, h2⟩ := Bool.and_eq_true_iff.mp (show (s.gls.contains g && (match K g with | .val x => D.same x d | .fn => D.same (.fn g) d | _ => false)) = true from h)
  obtain ⟨a, b, n⟩ := c.gl h1
  have f := c.gf g
  unfold GFact at f
  cases q : K g with
  | val x =>
    rw [q] at f h2
    have := D.same_eq x d h2
    subst this
    obtain ⟨u, v, e1, e2, r⟩ := f
    exact e_c (v := v) (d := x) (pe_glob (pos := p) a e1 e2 b) (fun _ => rfl) r
  | fn =>
    rw [q] at f h2
    have := D.same_eq (.fn g) d h2
    subst this
    exact e_c (v := .ref (Γ.at_ g)) (d := .fn g) (pe_glob (pos := p) a f.1 rfl b) (fun _ => rfl) (fun _ _ _ _ => .fn g)
  | _ => rw [q] at h2; cases h2
variable {ea eb ec : E} {p : Pos} {fa fb fc : Bool}
theorem e_bin (c : Cxt Γ N GN K C W s X) {o : Operator} (ha : PE X (back N GN ea) (rd Γ W fa (ev C ea))) (hb : PE X (back N GN eb) (rd Γ W fb (ev C eb))) : PE X (back N GN (.bin o ea eb p)) (rd Γ W true (ev C (.bin o ea eb p))) :=
  PE.imp (pe_op (op_bin c.hK o) ha hb) fun σ H Q ⟨env, G, t, er, k, q⟩ =>
    rd.go er k (show PostR Γ W σ G H (M.bind (ev C ea env) (fun x => M.bind (ev C eb env) fun y => M.of (binD o x y)) t) (fun d s' => PostV Γ G H s' true d Q) from q) fun x s1 v G1 H1 g1 k1 r1 er1 q1 =>
    rd.go er1 k1 (Post.mono g1 q1) fun y s2 u G2 H2 g2 k2 r2 er2 q2 =>
      let ⟨d, e, q3⟩ := PostR.of (Post.mono g2 q2)
      ⟨G2, s2, x, y, d, k2, r1.grow k1 g2, r2, e, q3⟩
theorem e_neg (c : Cxt Γ N GN K C W s X) (ha : PE X (back N GN ea) (rd Γ W fa (ev C ea))) : PE X (back N GN (.neg ea p)) (rd Γ W false (ev C (.neg ea p))) :=
  PE.imp (pe_un un_neg ha) fun σ H Q ⟨env, G, t, er, k, q⟩ =>
    rd.go er k (show PostR Γ W σ G H (M.bind (ev C ea env) (fun x => match x with | .int i => M.pure (.int (-i)) | _ => M.no) t) (fun d s' => PostV Γ G H s' false d Q) from q) fun x s1 v G1 H1 g1 k1 r1 er1 q1 => by
      cases r1 with
      | int i => exact ⟨i, rfl, pvF (PostV.mono g1 (show PostV Γ G H s1 false (.int (-i)) Q from q1)) k1 (.int _)⟩
      | _ => exact (show False from q1).elim
theorem i_not {σ : L2.St} {H : Hp} {Q : VK} (h : rd Γ W fa (ev C (.not ea p)) σ H Q) : rd Γ W fb (ev C ea) σ H fun x H1 => ∃ c, x = .bl c ∧ Q (.bl (!c)) H1 := by
  obtain ⟨env, G, t, er, k, q⟩ := h
  refine rd.go er k (show PostR Γ W σ G H (M.bind (ev C ea env) (fun x => match x with | .bl i => M.pure (.bl (!i)) | _ => M.no) t) (fun d s' => PostV Γ G H s' fa d Q) from q) fun x s1 v G1 H1 g1 k1 r1 er1 q1 => ?_
  cases r1 with
  | bl i =>
    refine ⟨i, rfl, ?_⟩
    have q1 : PostV Γ G H s1 fa (.bl (!i)) Q := q1
    cases fa with
    | false => exact pvF (PostV.mono g1 q1) k1 (.bl _)
    | true => exact postAt (PostV.mono g1 q1) k1 (fun _ z => nomatch z) (.bl _)
  | _ => exact (show False from q1).elim
theorem e_not (ha : PE X (back N GN ea) (rd Γ W fa (ev C ea))) : PE X (back N GN (.not ea p)) (rd Γ W false (ev C (.not ea p))) :=
  PE.imp (pe_not ha) fun σ H Q q => i_not q
theorem t_not (ha : PT X (back N GN ea) (rdT Γ W (ev C ea))) : PT X (back N GN (.not ea p)) (rdT Γ W (ev C (.not ea p))) :=
  PT.imp (pt_not ha) fun σ H Q ⟨env, G, t, er, k, q⟩ =>
    rdT.go er k (show PostR Γ W σ G H (M.bind (ev C ea env) (fun x => match x with | .bl i => (M.pure (D.bl (!i)) : M D) | _ => M.no) t) (fun d s' => ∃ b, d = D.bl b ∧ ∀ G' H', Grow G H G' H' → SOk Γ G' H' s' → Q b H') from q)
      (fun d s1 q1 => by cases d <;> first | exact ⟨_, rfl⟩ | exact (show False from q1).elim)
      fun b s1 G1 H1 g1 k1 er1 q1 => by
        obtain ⟨b', e, q2⟩ := (show ∃ b', D.bl (!b) = .bl b' ∧ ∀ G' H', Grow G H G' H' → SOk Γ G' H' s1 → Q b' H' from q1)
        cases e
        exact q2 G1 H1 g1 k1
theorem i_cmp {o : CmpOp} {σ : L2.St} {H : Hp} {Q : VK} (h : rd Γ W fc (ev C (.cmp o ea eb p)) σ H Q) : tOp (rCmp Γ o) (rd Γ W fa (ev C ea)) (rd Γ W fb (ev C eb)) σ H Q := by
  obtain ⟨env, G, t, er, k, q⟩ := h
  refine rd.go er k (show PostR Γ W σ G H (M.bind (ev C ea env) (fun x => M.bind (ev C eb env) fun y => M.of ((cmpD o x y).map .bl)) t) (fun d s' => PostV Γ G H s' fc d Q) from q) fun x s1 v G1 H1 g1 k1 r1 er1 q1 =>
    rd.go er1 k1 (Post.mono g1 q1) fun y s2 u G2 H2 g2 k2 r2 er2 q2 => ?_
  obtain ⟨d, e, q3⟩ := PostR.of (Post.mono g2 q2)
  cases e2 : cmpD o x y with
  | none => rw [e2] at e; cases e
  | some b =>
    rw [e2] at e
    cases e
    refine ⟨G2, s2, x, y, b, k2, r1.grow k1 g2, r2, e2, ?_⟩
    cases fc with
    | false => exact pvF q3 k2 (.bl _)
    | true => exact postAt q3 k2 (fun _ z => nomatch z) (.bl _)
theorem e_cmp (c : Cxt Γ N GN K C W s X) {o : CmpOp} (ha : PE X (back N GN ea) (rd Γ W fa (ev C ea))) (hb : PE X (back N GN eb) (rd Γ W fb (ev C eb))) : PE X (back N GN (.cmp o ea eb p)) (rd Γ W false (ev C (.cmp o ea eb p))) :=
  PE.imp (pe_cmpR (op_cmp c.hK c.hu o) ha hb ((pl_back N GN eb).bm o)) fun σ H Q q => i_cmp q
theorem t_cmp (c : Cxt Γ N GN K C W s X) {o : CmpOp} (ha : PE X (back N GN ea) (rd Γ W fa (ev C ea))) (hb : PE X (back N GN eb) (rd Γ W fb (ev C eb))) : PT X (back N GN (.cmp o ea eb p)) (rdT Γ W (ev C (.cmp o ea eb p))) :=
  PT.imp (pt_cmpR (op_cmp c.hK c.hu o) ha hb ((pl_back N GN eb).bm o)) fun σ H Q q => i_cmp (rd_of_T false q)
theorem i_cmp2 {o o2 : CmpOp} {σ : L2.St} {H : Hp} {Q : VK} (h : rd Γ W false (ev C (.cmp2 o o2 ea eb ec p)) σ H Q) : tChain (rCmp Γ o) (rCmp Γ o2) (rd Γ W fa (ev C ea)) (rd Γ W fb (ev C eb)) (rd Γ W fc (ev C ec)) σ H Q := by
  obtain ⟨env, G, t, er, k, q⟩ := h
  refine rd.go er k (show PostR Γ W σ G H (M.bind (ev C ea env) (fun x => M.bind (ev C eb env) fun y => M.bind (M.of (cmpD o x y)) fun r => if r then M.bind (ev C ec env) fun z => M.of ((cmpD o2 y z).map .bl) else M.pure (.bl false)) t) (fun d s' => PostV Γ G H s' false d Q) from q) fun x s1 v G1 H1 g1 k1 r1 er1 q1 =>
    rd.go er1 k1 (Post.mono g1 q1) fun y s2 u G2 H2 g2 k2 r2 er2 q2 => ?_
  have q2 := Post.mono g2 q2
  cases e2 : cmpD o x y with
  | none => rw [e2] at q2; exact (show False from q2).elim
  | some b =>
    rw [e2] at q2
    refine ⟨G2, s2, x, y, b, k2, r1.grow k1 g2, r2, e2, b, rfl, ?_⟩
    cases b with
    | false => exact pvF (show PostV Γ G2 H2 s2 false (.bl false) Q from q2) k2 (.bl _)
    | true =>
      refine rd.go er2 k2 (show PostR Γ W σ G2 H2 (M.bind (ev C ec env) (fun z => M.of ((cmpD o2 y z).map .bl)) s2) (fun d s' => PostV Γ G2 H2 s' false d Q) from q2) fun z s3 w G3 H3 g3 k3 r3 er3 q3 => ?_
      obtain ⟨d, e, q4⟩ := PostR.of (Post.mono g3 q3)
      cases e3 : cmpD o2 y z with
      | none => rw [e3] at e; cases e
      | some b =>
        rw [e3] at e
        cases e
        exact ⟨G3, s3, y, z, b, k3, r2.grow k2 g3, r3, e3, pvF q4 k3 (.bl _)⟩
theorem lm_back {o o2 : CmpOp} : lastMarks [o, o2] [back N GN eb, back N GN ec] = false := (pl_back N GN ec).bm o2
theorem e_cmp2 (c : Cxt Γ N GN K C W s X) {o o2 : CmpOp} (ha : PE X (back N GN ea) (rd Γ W fa (ev C ea))) (hb : PE X (back N GN eb) (rd Γ W fb (ev C eb))) (hc : PE X (back N GN ec) (rd Γ W fc (ev C ec))) : PE X (back N GN (.cmp2 o o2 ea eb ec p)) (rd Γ W false (ev C (.cmp2 o o2 ea eb ec p))) :=
  PE.imp (pe_chain (op_cmp c.hK c.hu o) (op_cmp c.hK c.hu o2) ha hb hc lm_back) fun σ H Q q => i_cmp2 q
theorem t_cmp2 (c : Cxt Γ N GN K C W s X) {o o2 : CmpOp} (ha : PE X (back N GN ea) (rd Γ W fa (ev C ea))) (hb : PE X (back N GN eb) (rd Γ W fb (ev C eb))) (hc : PE X (back N GN ec) (rd Γ W fc (ev C ec))) : PT X (back N GN (.cmp2 o o2 ea eb ec p)) (rdT Γ W (ev C (.cmp2 o o2 ea eb ec p))) :=
  PT.imp (pt_chain (op_cmp c.hK c.hu o) (op_cmp c.hK c.hu o2) ha hb hc lm_back) fun σ H Q q => i_cmp2 (rd_of_T false q)
theorem e_bop1 {o : BoolOp} (ha : PE X (back N GN ea) (rd Γ W fa (ev C ea))) : PE X (.BoolOp o [back N GN ea] p) (rd Γ W false (evB C o (.cons ea .nil))) :=
  PE.imp (pe_one ha) fun σ H Q q => q.weak fa
theorem e_bop {o : BoolOp} {es : Es} (ha : PE X (back N GN ea) (rd Γ W fa (ev C ea))) (hb : PE X (.BoolOp o (back N GN eb :: backs N GN es) p) (rd Γ W false (evB C o (.cons eb es)))) :
    PE X (.BoolOp o (back N GN ea :: back N GN eb :: backs N GN es) p) (rd Γ W false (evB C o (.cons ea (.cons eb es)))) := by
  cases o with
  | And =>
    refine PE.imp (pe_and ha hb) fun σ H Q ⟨env, G, t, er, k, q⟩ =>
      rd.go er k (show PostR Γ W σ G H (M.bind (ev C ea env) (fun x => match x with | .bl b => if b = true then evB C .And (.cons eb es) env else M.pure (.bl b) | _ => M.no) t) (fun d s' => PostV Γ G H s' false d Q) from q) fun x s1 v G1 H1 g1 k1 r1 er1 q1 => ?_
    cases r1 with
    | bl i =>
      refine ⟨i, rfl, ?_⟩
      cases i with
      | true => exact ⟨env, G1, s1, er1, k1, Post.mono g1 q1⟩
      | false => exact pvF (PostV.mono g1 (show PostV Γ G H s1 false (.bl false) Q from q1)) k1 (.bl _)
    | _ => exact (show False from q1).elim
  | Or =>
    refine PE.imp (pe_or ha hb) fun σ H Q ⟨env, G, t, er, k, q⟩ =>
      rd.go er k (show PostR Γ W σ G H (M.bind (ev C ea env) (fun x => match x with | .bl b => if b = false then evB C .Or (.cons eb es) env else M.pure (.bl b) | _ => M.no) t) (fun d s' => PostV Γ G H s' false d Q) from q) fun x s1 v G1 H1 g1 k1 r1 er1 q1 => ?_
    cases r1 with
    | bl i =>
      refine ⟨i, rfl, ?_⟩
      cases i with
      | false => exact ⟨env, G1, s1, er1, k1, Post.mono g1 q1⟩
      | true => exact pvF (PostV.mono g1 (show PostV Γ G H s1 false (.bl true) Q from q1)) k1 (.bl _)
    | _ => exact (show False from q1).elim
theorem w_bop1 {o : BoolOp} (ha : PT X (back N GN ea) (rdT Γ W (ev C ea))) : PW X (.BoolOp o [back N GN ea] p) (rdT Γ W (evB C o (.cons ea .nil))) := by
  cases o
  · exact pw_and1 ha
  · exact pw_or1 ha
theorem w_bop {o : BoolOp} {es : Es} (ha : PT X (back N GN ea) (rdT Γ W (ev C ea))) (hb : PW X (.BoolOp o (back N GN eb :: backs N GN es) p) (rdT Γ W (evB C o (.cons eb es)))) :
    PW X (.BoolOp o (back N GN ea :: back N GN eb :: backs N GN es) p) (rdT Γ W (evB C o (.cons ea (.cons eb es)))) := by
  have mono : ∀ {G H G1 H1 σ} {m : M D} {s1 : St2} {Q : Bool → Hp → Prop}, Grow G H G1 H1 → PostR Γ W σ G H (m s1) (fun d s' => ∃ b, d = .bl b ∧ ∀ G' H', Grow G H G' H' → SOk Γ G' H' s' → Q b H') → PostR Γ W σ G1 H1 (m s1) (fun d s' => ∃ b, d = .bl b ∧ ∀ G' H', Grow G1 H1 G' H' → SOk Γ G' H' s' → Q b H') := fun g q =>
    PostR.mono g (fun d s ⟨b, e, z⟩ => ⟨b, e, fun G' H' g' k => z G' H' (g.trans g') k⟩) q
  cases o with
  | And =>
    refine PW.imp (pw_and ha hb) fun σ H Q ⟨env, G, t, er, k, q⟩ =>
      rdT.go er k (show PostR Γ W σ G H (M.bind (ev C ea env) (fun x => match x with | .bl b => if b = true then evB C .And (.cons eb es) env else M.pure (.bl b) | _ => M.no) t) (fun d s' => ∃ b, d = .bl b ∧ ∀ G' H', Grow G H G' H' → SOk Γ G' H' s' → Q b H') from q)
        (fun d s1 q1 => by cases d <;> first | exact ⟨_, rfl⟩ | exact (show False from q1).elim)
        fun b s1 G1 H1 g1 k1 er1 q1 => ?_
    cases b with
    | true => exact ⟨env, G1, s1, er1, k1, mono g1 q1⟩
    | false =>
      obtain ⟨b', e, q2⟩ := (show ∃ b', D.bl false = .bl b' ∧ ∀ G' H', Grow G H G' H' → SOk Γ G' H' s1 → Q b' H' from q1)
      cases e
      exact q2 G1 H1 g1 k1
  | Or =>
    refine PW.imp (pw_or ha hb) fun σ H Q ⟨env, G, t, er, k, q⟩ =>
      rdT.go er k (show PostR Γ W σ G H (M.bind (ev C ea env) (fun x => match x with | .bl b => if b = false then evB C .Or (.cons eb es) env else M.pure (.bl b) | _ => M.no) t) (fun d s' => ∃ b, d = .bl b ∧ ∀ G' H', Grow G H G' H' → SOk Γ G' H' s' → Q b H') from q)
        (fun d s1 q1 => by cases d <;> first | exact ⟨_, rfl⟩ | exact (show False from q1).elim)
        fun b s1 G1 H1 g1 k1 er1 q1 => ?_
    cases b with
    | false => exact ⟨env, G1, s1, er1, k1, mono g1 q1⟩
    | true =>
      obtain ⟨b', e, q2⟩ := (show ∃ b', D.bl true = .bl b' ∧ ∀ G' H', Grow G H G' H' → SOk Γ G' H' s1 → Q b' H' from q1)
      cases e
      exact q2 G1 H1 g1 k1
theorem pt_ifExp {X : Cx} {a b c : Expr} {pos : Pos} {tA ta tb : TT} (hc : PT X c tA) (ha : PT X a ta) (hb : PT X b tb) : PT X (.IfExp c a b pos) (fun σ H Q => tA σ H fun d H1 => if d = true then ta σ H1 Q else tb σ H1 Q) := by
  refine ⟨fun pins s σ H Q I h => ?_⟩
  show wpAny _ _ (do if ← isTrue c X.env (eval c X.env) then isTrue a X.env (eval a X.env) else isTrue b X.env (eval b X.env)) _ _ s
  refine wpAny_bind (thn (hc.run pins s σ H _ I h) fun d s1 ⟨H1, I1, q1⟩ => ?_)
  cases d with
  | true => exact ha.run pins s1 σ H1 Q I1 q1
  | false => exact hb.run pins s1 σ H1 Q I1 q1
theorem e_ife (hc : PT X (back N GN ec) (rdT Γ W (ev C ec))) (ha : PE X (back N GN ea) (rd Γ W fa (ev C ea))) (hb : PE X (back N GN eb) (rd Γ W fb (ev C eb))) : PE X (back N GN (.ife ec ea eb p)) (rd Γ W false (ev C (.ife ec ea eb p))) := by
  refine PE.imp (pe_ifExp hc ha hb) fun σ H Q ⟨env, G, t, er, k, q⟩ =>
      rdT.go er k (show PostR Γ W σ G H (M.bind (ev C ec env) (fun x => match x with | .bl true => ev C ea env | .bl false => ev C eb env | _ => M.no) t) (fun d s' => PostV Γ G H s' false d Q) from q)
        (fun d s1 q1 => by cases d <;> first | exact ⟨_, rfl⟩ | exact (show False from q1).elim)
        fun b s1 G1 H1 g1 k1 er1 q1 => ?_
  cases b with
  | true => exact rd.weak ⟨env, G1, s1, er1, k1, Post.mono g1 q1⟩ fa
  | false => exact rd.weak ⟨env, G1, s1, er1, k1, Post.mono g1 q1⟩ fb
theorem t_ife (hc : PT X (back N GN ec) (rdT Γ W (ev C ec))) (ha : PT X (back N GN ea) (rdT Γ W (ev C ea))) (hb : PT X (back N GN eb) (rdT Γ W (ev C eb))) : PT X (back N GN (.ife ec ea eb p)) (rdT Γ W (ev C (.ife ec ea eb p))) := by
  have mono : ∀ {G H G1 H1 σ} {m : M D} {s1 : St2} {Q : Bool → Hp → Prop}, Grow G H G1 H1 → PostR Γ W σ G H (m s1) (fun d s' => ∃ b, d = .bl b ∧ ∀ G' H', Grow G H G' H' → SOk Γ G' H' s' → Q b H') → PostR Γ W σ G1 H1 (m s1) (fun d s' => ∃ b, d = .bl b ∧ ∀ G' H', Grow G1 H1 G' H' → SOk Γ G' H' s' → Q b H') := fun g q =>
    PostR.mono g (fun d s ⟨b, e, z⟩ => ⟨b, e, fun G' H' g' k => z G' H' (g.trans g') k⟩) q
  refine PT.imp (pt_ifExp hc ha hb) fun σ H Q ⟨env, G, t, er, k, q⟩ =>
      rdT.go er k (show PostR Γ W σ G H (M.bind (ev C ec env) (fun x => match x with | .bl true => ev C ea env | .bl false => ev C eb env | _ => M.no) t) (fun d s' => ∃ b, d = .bl b ∧ ∀ G' H', Grow G H G' H' → SOk Γ G' H' s' → Q b H') from q)
        (fun d s1 q1 => by cases d <;> first | exact ⟨_, rfl⟩ | exact (show False from q1).elim)
        fun b s1 G1 H1 g1 k1 er1 q1 => ?_
  cases b with
  | true => exact ⟨env, G1, s1, er1, k1, mono g1 q1⟩
  | false => exact ⟨env, G1, s1, er1, k1, mono g1 q1⟩
theorem a_nil : PA X [] (rdA Γ W (evs C .nil)) := by
  refine PA.imp pa_nil fun σ H Q ⟨env, G, t, er, k, q⟩ => ?_
  exact (show ∀ vs G' H', Grow G H G' H' → SOk Γ G' H' t → Rps Γ G' H' vs [] → Q vs H' from q) [] G H (.refl G H) k .nil
theorem a_cons {es : Es} (ha : PE X (back N GN ea) (rd Γ W fa (ev C ea))) (hb : PA X (backs N GN es) (rdA Γ W (evs C es))) : PA X (back N GN ea :: backs N GN es) (rdA Γ W (evs C (.cons ea es))) := by
  refine PA.imp (pa_cons ha hb ((pl_back N GN ea).st _ _)) fun σ H Q ⟨env, G, t, er, k, q⟩ =>
    rd.go er k (show PostR Γ W σ G H (M.bind (ev C ea env) (fun x => M.bind (evs C es env) fun l => M.pure (x :: l)) t) (fun ds s' => ∀ vs G' H', Grow G H G' H' → SOk Γ G' H' s' → Rps Γ G' H' vs ds → Q vs H') from q) fun x s1 v G1 H1 g1 k1 r1 er1 q1 => ?_
  refine rdA.go er1 k1 (PostR.mono g1 (Q' := fun ds s' => ∀ vs G' H', Grow G1 H1 G' H' → SOk Γ G' H' s' → Rps Γ G' H' vs ds → Q vs H') (fun d s z vs G' H' g' k' => z vs G' H' (g1.trans g') k') q1) fun ds s2 vs G2 H2 g2 k2 r2 er2 q2 => ?_
  exact (show ∀ vs G' H', Grow G1 H1 G' H' → SOk Γ G' H' s2 → Rps Γ G' H' vs (x :: ds) → Q vs H' from q2) (v :: vs) G2 H2 g2 k2 (.cons (r1.grow k1 g2) r2)
theorem e_tup {es : Es} {k : Nat} (h : PA X (backs N GN es) (rdA Γ W (evs C es))) : PE X (back N GN (.tup es k p)) (rd Γ W false (ev C (.tup es k p))) := by
  refine PE.imp (pe_tup h) fun σ H Q ⟨env, G, t, er, k, q⟩ =>
    rdA.go er k (show PostR Γ W σ G H (M.bind (evs C es env) (fun l => if sizeOk l.length then M.pure (.tup l) else M.no) t) (fun d s' => PostV Γ G H s' false d Q) from q) fun ds s1 vs G1 H1 g1 k1 r1 er1 q1 => ?_
  by_cases hs : sizeOk ds.length = true
  · rw [if_pos hs] at q1
    exact ⟨by rw [r1.length]; exact sizeOk_of hs, pvT (PostV.mono g1 (show PostV Γ G H s1 false (.tup ds) Q from q1)) k1 r1⟩
  · rw [if_neg hs] at q1
    exact (show False from q1).elim
theorem e_lst {es : Es} (h : PA X (backs N GN es) (rdA Γ W (evs C es))) : PE X (back N GN (.lst es p)) (rd Γ W true (ev C (.lst es p))) := by
  refine PE.imp (pe_lst h) fun σ H Q ⟨env, G, t, er, k, q⟩ =>
    rdA.go er k (show PostR Γ W σ G H (M.bind (evs C es env) (fun l => if sizeOk l.length then M.pure (.lst l) else M.no) t) (fun d s' => PostV Γ G H s' true d Q) from q) fun ds s1 vs G1 H1 g1 k1 r1 er1 q1 => ?_
  by_cases hs : sizeOk ds.length = true
  · rw [if_pos hs] at q1
    exact ⟨by rw [r1.length]; exact sizeOk_of hs, postL (PostV.mono g1 (show PostV Γ G H s1 true (.lst ds) Q from q1)) k1 r1⟩
  · rw [if_neg hs] at q1
    exact (show False from q1).elim
theorem PostR.sta {G : Gh} {H : Hp} {σ : L2.St} {m : M D} {s1 : St2} {fr : Bool} {Q : VK} (hm : ∀ r s', m s1 = some (r, s') → s' = s1 ∧ ∃ d, r = .ok d) (h : Post Γ W σ G H fr (m s1) Q) : PostR Γ (fun _ _ _ _ => False) [] G H (m s1) fun d s' => s' = s1 ∧ PostV Γ G H s1 fr d Q := by
  cases e : m s1 with
  | none => rw [e] at h; exact h
  | some q =>
    obtain ⟨r, s'⟩ := q
    obtain ⟨rfl, d, rfl⟩ := hm r s' e
    rw [e] at h
    exact ⟨rfl, h⟩
theorem of_sta {o : Option D} {s1 s' : St2} {r : Res D} (h : M.of o s1 = some (r, s')) : s' = s1 ∧ ∃ d, r = .ok d := by
  cases o with
  | none => cases h
  | some d => cases h; exact ⟨rfl, d, rfl⟩
theorem ixD_sta (a b : D) (s1 : St2) (r : Res D) (s' : St2) (h : ixD a b s1 = some (r, s')) : s' = s1 ∧ ∃ d, r = .ok d := by
  unfold ixD at h
  split at h
  · exact of_sta h
  · exact of_sta h
  · split at h
    · split at h
      · cases h; exact ⟨rfl, _, rfl⟩
      · split at h
        · cases h; exact ⟨rfl, _, rfl⟩
        · cases h
    · cases h
  · cases h
theorem bltM_sta (f : Bi) (l : List D) (s1 : St2) (r : Res D) (s' : St2) (h : bltM f l s1 = some (r, s')) : s' = s1 ∧ ∃ d, r = .ok d := by
  unfold bltM at h
  split at h
  · split at h
    · cases h; exact ⟨rfl, _, rfl⟩
    · cases h
  · exact of_sta h
theorem e_ix (c : Cxt Γ N GN K C W s X) (ha : PE X (back N GN ea) (rd Γ W fa (ev C ea))) (hb : PE X (back N GN eb) (rd Γ W fb (ev C eb))) : PE X (back N GN (.ix ea eb p)) (rd Γ W false (ev C (.ix ea eb p))) :=
  PE.imp (pe_ix (ix_X c.hK) ha hb (fun o i => (pl_back N GN eb).ix o i)) fun σ H Q ⟨env, G, t, er, k, q⟩ =>
    rd.go er k (show PostR Γ W σ G H (M.bind (ev C ea env) (fun x => M.bind (ev C eb env) fun y => ixD x y) t) (fun d s' => PostV Γ G H s' false d Q) from q) fun x s1 v G1 H1 g1 k1 r1 er1 q1 =>
    rd.go er1 k1 (Post.mono g1 q1) fun y s2 u G2 H2 g2 k2 r2 er2 q2 =>
      ⟨G2, s2, x, y, k2, r1.grow k1 g2, r2, PostR.sta (ixD_sta x y s2) (Post.mono g2 q2)⟩
end
end Co
set_option Elab.async false
set_option linter.all false
set_option maxRecDepth 100000
set_option maxHeartbeats 4000000
namespace Co
open PySem PySem.Spec PyProof.Rows L2 HotX L2H
theorem SqT.reverse_rps {Γ : Mo} {G : Gh} {H : Hp} {xs : List V} {ds : List D} (r : Rps Γ G H xs ds) : Rps Γ G H xs.reverse ds.reverse := r.reverse
section
variable {Γ : Mo} {N GN : List Str} {K : Nat → GK} {C : Cl} {W : WX} {s : Sc} {X : Cx}
variable {ea eb ec : E} {p : Pos} {fa fb fc : Bool}
theorem o_no : PO X (backO N GN .no) (rdO Γ W (evO C .no)) := by
  refine ⟨fun pins s σ H Q I h => po_none.run pins s σ H Q I ?_⟩
  obtain ⟨env, G, t, er, k, q⟩ := h
  exact (show ∀ G' H', Grow G H G' H' → SOk Γ G' H' t → Q none H' from q) G H (.refl G H) k
theorem o_so (ha : PE X (back N GN ea) (rd Γ W fa (ev C ea))) : PO X (backO N GN (.so ea)) (rdO Γ W (evO C (.so ea))) := by
  refine ⟨fun pins s σ H Q I h => (po_some ha).run pins s σ H Q I ?_⟩
  obtain ⟨env, G, t, er, k, q⟩ := h
  refine rd.go er k (show PostR Γ W σ G H (M.bind (ev C ea env) (fun x => match x with | .int i => M.pure (some i) | _ => M.no) t) (fun o s' => ∀ G' H', Grow G H G' H' → SOk Γ G' H' s' → Q o H') from q) fun x s1 v G1 H1 g1 k1 r1 er1 q1 => ?_
  cases r1 with
  | int i => exact ⟨i, rfl, (show ∀ G' H', Grow G H G' H' → SOk Γ G' H' s1 → Q (some i) H' from q1) G1 H1 g1 k1⟩
  | _ => exact (show False from q1).elim
theorem e_sl (c : Cxt Γ N GN K C W s X) {lo hi : Oe} {p2 : Pos} (ha : PE X (back N GN ea) (rd Γ W fa (ev C ea))) (hl : PO X (backO N GN lo) (rdO Γ W (evO C lo))) (hh : PO X (backO N GN hi) (rdO Γ W (evO C hi))) :
    PE X (back N GN (.sl ea lo hi p2 p)) (rd Γ W true (ev C (.sl ea lo hi p2 p))) := by
  refine PE.imp (pe_slice (sl_X c.hK) ha hl hh) fun σ H Q ⟨env, G, t, er, k, q⟩ =>
    rd.go er k (show PostR Γ W σ G H (M.bind (ev C ea env) (fun x => M.bind (evO C lo env) fun l => M.bind (evO C hi env) fun h => M.of (slD x l h)) t) (fun d s' => PostV Γ G H s' true d Q) from q) fun x s1 v G1 H1 g1 k1 r1 er1 q1 => ?_
  refine rdO.go er1 k1 (Post.mono g1 q1) fun l s2 G2 H2 g2 k2 er2 q2 => ?_
  refine rdO.go er2 k2 (Post.mono g2 q2) fun u s3 G3 H3 g3 k3 er3 q3 => ?_
  obtain ⟨d, e, q4⟩ := PostR.of (Post.mono g3 q3)
  exact ⟨G3, s3, x, d, k3, (r1.grow k1 g2).grow k2 g3, e, q4⟩
theorem e_rev (c : Cxt Γ N GN K C W s X) {kk : Nat} {p4 p3 p2 : Pos} (ha : PE X (back N GN ea) (rd Γ W fa (ev C ea))) :
    PE X (back N GN (.rev ea kk p4 p3 p2 p)) (rd Γ W true (ev C (.rev ea kk p4 p3 p2 p))) := by
  have hK' : Γ.K = X.K := c.hK.symm
  refine PE.imp (pe_revA ha) fun σ H Q ⟨env, G, t, er, k, q⟩ =>
    rd.go er k (show PostR Γ W σ G H (M.bind (ev C ea env) (fun x => match x with | .lst l => M.pure (.lst l.reverse) | .tup l => M.pure (.tup l.reverse) | _ => M.no) t) (fun d s' => PostV Γ G H s' true d Q) from q) fun x s1 v G1 H1 g1 k1 r1 er1 q1 => ?_
  cases r1 with
  | @lst l ys es hz hl rl => exact ⟨l, ys, rfl, .inl ⟨SqL.of hl, postL (PostV.mono g1 (show PostV Γ G H s1 true (.lst es.reverse) Q from q1)) k1 rl.reverse⟩⟩
  | @tup l ys es hl rl => exact ⟨l, ys, rfl, .inr ⟨by rw [← hK']; exact hl, postT (PostV.mono g1 (show PostV Γ G H s1 true (.tup es.reverse) Q from q1)) k1 rl.reverse⟩⟩
  | _ => exact (show False from q1).elim
theorem post_call {σ : L2.St} {G : Gh} {H : Hp} {r : Option (Res D × St2)} {Q : VK} (h : Post Γ W σ G H false r Q) : Post Γ (fun c d _ h => WE W σ c d h) [] G H false r Q := by
  cases r with
  | none => exact h
  | some q =>
    obtain ⟨r, s'⟩ := q
    cases r with
    | ok a => exact h
    | ex g n => exact h
theorem c_fn (c : Cxt Γ N GN K C W s X) (hc : s.calls = true) {g : Nat} (h : K g = .fn) :
    ∃ k fd ps, FnOk X.prog X.w X.K X.mg X.base (L2N.CX X.prog X.w) k (Γ.at_ g) fd ps (spOf Γ (C.c g) ps.length) ∧ Room k X.A ∧ Binds X.K fd ps [] ∧ ∀ ds t, ds.length ≠ ps.length → C.c g ds t = none := by
  rcases c.fns hc g with z | z
  · exact absurd h z.1
  · exact z.2
theorem postR_some {α : Type} {σ : L2.St} {G : Gh} {H : Hp} {r : Option (Res α × St2)} {Q : α → St2 → Prop} (h : PostR Γ W σ G H r Q) : r ≠ none := by
  rintro rfl
  exact h
theorem sp_call {g n : Nat} {ds : List D} {vs : List V} {σ : L2.St} {G : Gh} {H : Hp} {t : St2} {Q : VK} (hl : ∀ ds t, ds.length ≠ n → C.c g ds t = none) (k : SOk Γ G H t) (r : Rps Γ G H vs ds) (q : Post Γ W σ G H false (C.c g ds t) Q) : spOf Γ (C.c g) n vs H Q (WE W σ) := by
  refine ⟨G, ds, t, r, k, ?_, post_call q⟩
  by_cases e : ds.length = n
  · rw [r.length]; exact e
  · exact absurd (hl ds t e) (postR_some q)
theorem fnok (c : Cxt Γ N GN K C W s X) {g : Nat} (h : K g = .fn) : X.mg (nm GN g) = some (.ref (Γ.at_ g)) ∧ PySem.W.keepIn X.K (.ref (Γ.at_ g)) = true := by
  have f := c.gf g
  unfold GFact at f
  rw [h] at f
  rw [c.hK]
  exact f
theorem e_call (c : Cxt Γ N GN K C W s X) {g : Nat} {es : Es} {gp : Pos} (hc : s.calls = true) (hg : s.gls.contains g = true) (hf : (K g).isFn = true) (ha : PA X (back N GN ea :: backs N GN es) (rdA Γ W (evs C (.cons ea es)))) :
    PE X (back N GN (.call g (.cons ea es) gp p)) (rd Γ W false (ev C (.call g (.cons ea es) gp p))) := by
  obtain ⟨a, b, n⟩ := c.gl hg
  have hk : K g = .fn := by cases q : K g <;> rw [q] at hf <;> first | rfl | cases hf
  obtain ⟨m1, m2⟩ := fnok c hk
  obtain ⟨k, fd, ps, F, hr, hb, hl⟩ := c_fn c hc hk
  refine PE.imp (pe_callS F hr a m1 m2 hb (L2N.passAt c.tk) ha b ((pl_back N GN ea).st _ _) (star_backs N GN p X.env es)) fun σ H Q ⟨env, G, t, er, k, q⟩ =>
    rdA.go er k (show PostR Γ W σ G H (M.bind (evs C (.cons ea es) env) (fun l => C.c g l) t) (fun d s' => PostV Γ G H s' false d Q) from q) fun ds s1 vs G1 H1 g1 k1 r1 er1 q1 => ?_
  exact sp_call hl k1 r1 (Post.mono g1 q1)
theorem pe_call0S {W : WX} {x : Str} {p pos : Pos} {k : Nat} {f : Addr} {fd : FuncData} {ps : List Str} {sp : Sp} (F : FnOk X.prog X.w X.K X.mg X.base (L2N.CX X.prog X.w) k f fd ps sp) (hr : Room k X.A) (hg : Gl X x) (hm : X.mg x = some (.ref f)) (hk : PySem.W.keepIn X.K (.ref f) = true) (hb : Binds X.K fd ps []) (tk : L2N.Takes X W)
    (hdb : (x == ("__debug__" : Str)) = false) : PE X (.Call (.Name x p) [] [] pos) (fun σ H Q => sp [] H Q (WE W σ)) := by
  refine ⟨fun pins s σ H Q I h => ?_⟩
  refine wpAny_Call_Name_kw (ld_glob I hg hm ?_ hdb)
  exact PySem.W.callWith_K0 I.kIn hk (run_fnS (us := []) F hr hb (L2N.passAt tk σ) I .nil h)
theorem e_call0 (c : Cxt Γ N GN K C W s X) {g : Nat} {gp : Pos} (hc : s.calls = true) (hg : s.gls.contains g = true) (hf : (K g).isFn = true) :
    PE X (back N GN (.call g .nil gp p)) (rd Γ W false (ev C (.call g .nil gp p))) := by
  obtain ⟨a, b, n⟩ := c.gl hg
  have hk : K g = .fn := by cases q : K g <;> rw [q] at hf <;> first | rfl | cases hf
  obtain ⟨m1, m2⟩ := fnok c hk
  obtain ⟨k, fd, ps, F, hr, hb, hl⟩ := c_fn c hc hk
  refine PE.imp (pe_call0S F hr a m1 m2 hb c.tk b) fun σ H Q ⟨env, G, t, er, k, q⟩ => ?_
  exact sp_call hl k .nil (show Post Γ W σ G H false (C.c g [] t) Q from q)
theorem pe_callV {W : WX} {i : Nat} {x : Str} {p pos : Pos} {e : Expr} {es : List Expr} {t : TA} (tk : L2N.Takes X W) (hN : X.N[i]? = some x) (hv : Vis X.env.scope x) (ha : PA X (e :: es) t)
    (hdb : (x == ("__debug__" : Str)) = false) (hcd : (x == ("__classdict__" : Str)) = false)
    (he : starEach (e :: es) X.env = (false, eval e X.env) :: starEach es X.env) (hpl : (backTo pos (starEach es X.env)).any (·.1) = false) :
    PE X (.Call (.Name x p) (e :: es) [] pos) (fun σ H Q => ∃ (f : Addr) (sp : Sp) (k : Nat) (fd : FuncData) (ps : List Str), σ[i]? = some (some (.ref f)) ∧ FnOk X.prog X.w X.K X.mg X.base (L2N.CX X.prog X.w) k f fd ps sp ∧ Room k X.A ∧ PySem.W.keepIn X.K (.ref f) = true ∧ Binds X.K fd ps [] ∧ t σ H fun vs H1 => sp vs H1 Q (WE W σ)) := by
  refine ⟨fun pins s σ H Q I h => ?_⟩
  obtain ⟨f, sp, k, fd, ps, hs, F, hr, hk, hb, ht⟩ := h
  refine wpAny_Call_Name_kw (thn ((pe_var (pos := p) hN hv hdb hcd).run pins s σ H (fun v H1 => v = .ref f ∧ H1 = H) I ⟨.ref f, hs, rfl, rfl⟩) fun u s1 ⟨v, H1, I1, r1, q1⟩ => ?_)
  obtain ⟨rfl, rfl⟩ := q1
  cases r1
  refine PySem.W.callWith_K (h₀ := X.base) I.ok.mod.kin hk (thn (ha.run pos pins s1 σ _ _ I1 ht) fun us s2 ⟨vs, H2, I2, r, q⟩ => ⟨I2.kIn, ?_⟩) he hpl
  exact run_fnS F hr hb (L2N.passAt tk σ) I2 r q
theorem e_callv (c : Cxt Γ N GN K C W s X) {i : Nat} {es : Es} {gp : Pos} (hc : s.calls = true) (hi : s.vis.contains i = true) (ha : PA X (back N GN ea :: backs N GN es) (rdA Γ W (evs C (.cons ea es)))) :
    PE X (back N GN (.callv i (.cons ea es) gp p)) (rd Γ W false (ev C (.callv i (.cons ea es) gp p))) := by
  obtain ⟨hx, hv, h1, h2⟩ := c.var hi
  refine PE.imp (pe_callV c.tk hx hv ha h1 h2 ((pl_back N GN ea).st _ _) (star_backs N GN p X.env es)) fun σ H Q ⟨env, G, t, er, k, q⟩ => ?_
  have q : PostR Γ W σ G H ((match env.get i with | some (.fn g) => if C.fn g then M.bind (evs C (.cons ea es) env) fun l => C.c g l else M.no | _ => M.no) t) (fun d s' => PostV Γ G H s' false d Q) := q
  cases e : env.get i with
  | none => rw [e] at q; exact (show False from q).elim
  | some d =>
    rw [e] at q
    obtain ⟨v, e1, r⟩ := er.get e
    cases d with
    | fn g =>
      cases e2 : C.fn g with
      | false =>
        simp only [e2] at q
        exact (show False from q).elim
      | true =>
        simp only [e2, if_true] at q
        have hk : K g = .fn := by
          rcases c.fns hc g with z | z
          · rw [e2] at z; exact absurd z.2 (by decide)
          · exact z.1
        obtain ⟨m1, m2⟩ := fnok c hk
        obtain ⟨kk, fd, ps, F, hr, hb, hl⟩ := c_fn c hc hk
        cases r
        refine ⟨Γ.at_ g, _, kk, fd, ps, e1, F, hr, m2, hb, ?_⟩
        refine rdA.go er k q fun ds s1 vs G1 H1 g1 k1 r1 er1 q1 => ?_
        exact sp_call hl k1 r1 (Post.mono g1 q1)
    | _ => exact (show False from q).elim
theorem e_blt (c : Cxt Γ N GN K C W s X) {f : Bi} {g : Nat} {es : Es} {gp : Pos} (hg : s.gls.contains g = true) (hf : (K g).isBlt f = true) (hc : (!f.cold || s.cold) = true) (ha : PA X (back N GN ea :: backs N GN es) (rdA Γ W (evs C (.cons ea es)))) :
    PE X (back N GN (.blt f g (.cons ea es) gp p)) (rd Γ W (E.isO (.blt f g (.cons ea es) gp p)) (ev C (.blt f g (.cons ea es) gp p))) := by
  obtain ⟨a, b, n⟩ := c.gl hg
  have hk : K g = .blt f := by
    cases q : K g with
    | blt f' => rw [q] at hf; rw [of_decide_eq_true (show decide (f = f') = true from hf)]
    | _ => rw [q] at hf; cases hf
  have fct := c.gf g
  unfold GFact at fct
  rw [hk] at fct
  have hcold : f.cold = true → X.calm = true := fun z => c.cold (by rw [z] at hc; simpa using hc)
  have cr := call_blt (X := X) c.hK f hcold
  have io : E.isO (.blt f g (.cons ea es) gp p) = f.new := by cases f <;> rfl
  have fin : ∀ σ H Q, rd Γ W (E.isO (.blt f g (.cons ea es) gp p)) (ev C (.blt f g (.cons ea es) gp p)) σ H Q → tCB (rBlt Γ f) (rdA Γ W (evs C (.cons ea es))) σ H Q := fun σ H Q ⟨env, G, t, er, k, q⟩ =>
    rdA.go er k (show PostR Γ W σ G H (M.bind (evs C (.cons ea es) env) (fun l => bltM f l) t) (fun d s' => PostV Γ G H s' (E.isO (.blt f g (.cons ea es) gp p)) d Q) from q) fun ds s1 vs G1 H1 g1 k1 r1 er1 q1 => by
      rw [io] at q1
      exact ⟨G1, s1, ds, k1, r1, PostR.sta (bltM_sta f ds s1) (Post.mono g1 q1)⟩
  have st := (pl_back N GN ea).st (backs N GN es) X.env
  have sb := star_backs N GN p X.env es
  refine PE.imp ?_ fin
  cases f with
  | gcd => exact pe_callBfun cr a fct ha b st sb
  | len => exact pe_callB cr a fct.1 fct.2 ha n b st sb
  | abs => exact pe_callB cr a fct.1 fct.2 ha n b st sb
  | max2 => exact pe_callB cr a fct.1 fct.2 ha n b st sb
  | min2 => exact pe_callB cr a fct.1 fct.2 ha n b st sb
  | all => exact pe_callB cr a fct.1 fct.2 ha n b st sb
  | any => exact pe_callB cr a fct.1 fct.2 ha n b st sb
  | sum => exact pe_callB cr a fct.1 fct.2 ha n b st sb
  | int => exact pe_callTy cr a fct.1 fct.2 ha n b st sb
  | list => exact pe_callTy cr a fct.1 fct.2 ha n b st sb
  | srt => exact pe_callB cr a fct.1 fct.2 ha n b st sb
  | stri => exact pe_callTy cr a fct.1 fct.2 ha n b st sb
  | tuple => exact pe_callTy cr a fct.1 fct.2 ha n b st sb
theorem e_isi (c : Cxt Γ N GN K C W s X) {g t : Nat} {gp tp : Pos} (hg : s.gls.contains g = true) (ht : s.gls.contains t = true) (hi : (K g).isIsi = true) (hty : (K t).isTy = true) (ha : PE X (back N GN ea) (rd Γ W fa (ev C ea))) :
    PE X (back N GN (.isi g ea t gp tp p)) (rd Γ W false (ev C (.isi g ea t gp tp p))) := by
  obtain ⟨a, b, n⟩ := c.gl hg
  obtain ⟨a2, b2, n2⟩ := c.gl ht
  have hk : K g = .isi := by cases q : K g <;> rw [q] at hi <;> first | rfl | cases hi
  have fct := c.gf g
  unfold GFact at fct
  rw [hk] at fct
  have pt : PE X (.Name (nm GN t) tp) (tC (clsV Γ K t)) := by
    have f2 := c.gf t
    unfold GFact at f2
    unfold clsV
    cases q : K t with
    | ty T => rw [q] at f2; exact pe_bltn a2 f2.1 f2.2 rfl n2 b2
    | cls => rw [q] at f2; exact pe_glob a2 f2 rfl b2
    | _ => rw [q] at hty; cases hty
  refine PE.imp (pe_callB (c.isi X ⟨rfl, rfl, rfl, rfl, rfl, rfl, rfl, fun _ => rfl⟩ t) a fct.1 fct.2 (pa_cons ha (pa_cons pt pa_nil rfl) ((pl_back N GN ea).st _ _)) n b ((pl_back N GN ea).st _ _) rfl) fun σ H Q ⟨env, G, u, er, k, q⟩ =>
    rd.go er k (show PostR Γ W σ G H (M.bind (ev C ea env) (fun x => M.of ((C.cls t x).map .bl)) u) (fun d s' => PostV Γ G H s' false d Q) from q) fun x s1 v G1 H1 g1 k1 r1 er1 q1 => ?_
  obtain ⟨d, e, q3⟩ := PostR.of (Post.mono g1 q1)
  cases e2 : C.cls t x with
  | none => rw [e2] at e; cases e
  | some b =>
    rw [e2] at e
    cases e
    exact ⟨v, G1, s1, x, b, rfl, k1, r1, e2, pvF q3 k1 (.bl _)⟩
theorem e_act (c : Cxt Γ N GN K C W s X) {i : Nat} {gp : Pos} (hc : s.act = true) (hi : s.vis.contains i = true) : PE X (back N GN (.act i gp p)) (rd Γ W false (ev C (.act i gp p))) :=
  c.act hc W X.pn X.xe c.tk i gp p (by simpa using hi)
theorem e_join {x : Str} {kk : Nat} {xp ap : Pos} (c : Cxt Γ N GN K C W s X) (hl : (ap.endLine == p.line) = true) (ha : PE X (back N GN ea) (rd Γ W fa (ev C ea))) :
    PE X (back N GN (.join x kk ea xp ap p)) (rd Γ W false (ev C (.join x kk ea xp ap p))) := by
  have hs : starEach [back N GN ea] X.env = [(false, eval (back N GN ea) X.env)] := (pl_back N GN ea).st [] X.env
  have hK' : Γ.K = X.K := c.hK.symm
  refine PE.imp (pe_join (pe_str (x := x) (j := kk) (pos := xp)) ha hs rfl hl) fun σ H Q ⟨env, G, u, er, k, q⟩ => ?_
  refine ⟨⟨x, rfl⟩, ?_⟩
  refine rd.go er k (show PostR Γ W σ G H (M.bind (ev C ea env) (fun (d : D) => match d with
    | .lst l => match D.strs l with
      | some ss => (if sizeOk ((ss.map Str.length).sum + ss.length * x.length) then M.pure (D.str (Txt.join x ss)) else M.no : M D)
      | none => M.no
    | _ => M.no) u) (fun d s' => PostV Γ G H s' false d Q) from q) fun d s1 v G1 H1 g1 k1 r1 er1 q1 => ?_
  cases r1 with
  | @lst l ys es hz hl rl =>
    have q1 : PostR Γ W σ G H ((match D.strs es with | some ss => (if sizeOk ((ss.map Str.length).sum + ss.length * x.length) then M.pure (D.str (Txt.join x ss)) else M.no : M D) | none => M.no) s1) (fun d s' => PostV Γ G H s' false d Q) := q1
    cases e : D.strs es with
    | none => rw [e] at q1; exact (show False from q1).elim
    | some ss =>
      rw [e] at q1
      by_cases hz : sizeOk ((ss.map Str.length).sum + ss.length * x.length) = true
      · simp only [hz, if_true] at q1
        have := strs_of rl e
        subst this
        refine ⟨x, l, ss, rfl, rfl, .inl (SqL.of hl), by have := sizeOk_of hz; rw [sizeLine_eq] at this; exact this, pvF (PostV.mono g1 (show PostV Γ G H s1 false (.str (Txt.join x ss)) Q from q1)) k1 (.str _)⟩
      · simp only [hz] at q1; exact (show False from q1).elim
  | _ => exact (show False from q1).elim
end
end Co
set_option Elab.async false
set_option linter.all false
set_option maxRecDepth 100000
set_option maxHeartbeats 4000000
namespace Co
open PySem PySem.Spec PyProof.Rows L2 HotX L2H
theorem TurnM.mono {P : Program} {w : World} {K : PySem.W.Frag} {tg : Expr} {J : It} {fp : List Addr} {it : Addr} {tn : Nat → Heap → Prop} {m m' : Cx → Prop} (t : TurnM P w K tg J fp it tn m) (h : ∀ Y, m' Y → m Y) : TurnM P w K tg J fp it tn m' :=
  ⟨t.mem, t.obj, t.keep, fun X a b c d => t.item X a b c (h X d), fun X a b c d => t.done X a b c (h X d), t.self⟩
theorem PIM.mono {X : Cx} {m m' : Cx → Prop} {tg e : Expr} {t : TI} (p : PIM X m tg e t) (h : ∀ Y, m' Y → m Y) : PIM X m' tg e t := ⟨fun pins s σ H R I q =>
  thn (p.run pins s σ H R I q) fun v s1 h1 => thn h1 fun itv s2 ⟨it, fp, tn, J, H', e, I2, t, a, b, c⟩ => ⟨it, fp, tn, J, H', e, I2, t.mono h, a, b, c⟩⟩
theorem turn_tupM {P : Program} {w : World} {K : PySem.W.Frag} {tg : Expr} (a it : Addr) : TurnM P w K tg (Itt K a) [it] it (fun i h => h.IsTupleIter it a i) Md where
  mem := by simp
  obj := (turn_tuple (P := P) (w := w) (K := K) (tg := tg) a it).obj
  keep := (turn_tuple (P := P) (w := w) (K := K) (tg := tg) a it).keep
  item := by
    intro X hP hw hK hc i pins s σ H E I hf st hg
    subst hP hw hK
    obtain ⟨xs, x, hq, hx⟩ := hg
    obtain ⟨its, rv, p, hz⟩ := I.tuple hq
    obtain ⟨u, hu, ru⟩ := rv.get hx
    obtain ⟨f0, f1, f2, f3, f4, f5⟩ := hf it (by simp)
    refine wpAny_pyNext_tuple_item st (show s.heap.IsTuple a its.toArray from p) (x := u) (by simpa using hu) fun h' st' sb => ?_
    have I1 : Inv X pins σ H { s with heap := h' } := I.turned (t' := s.toks) (fun b o hb e => (sb.2 b hb).trans e) f0 f1 f3 f4 f5
    obtain ⟨o, e, c, d⟩ := id st'
    exact ⟨u, rfl, go_of (s := { s with heap := h' }) e c d (by decide) ⟨x, H, I1, ru, ⟨rfl, fun ys hy => by rw [I.tuple_inj hy hq]; exact hx⟩, st', fun b hb => (hf b hb).1⟩⟩
  done := by
    intro X hP hw hK hc i pins s σ H E I hf st hg
    subst hP hw hK
    rcases hc with hc | hc
    · exact (turn_tuple (P := X.prog) (w := X.w) (tg := tg) a it).done X rfl rfl rfl hc i pins s σ H E I hf st hg
    obtain ⟨xs, hq, hx⟩ := hg
    obtain ⟨its, rv, p, hz⟩ := I.tuple hq
    obtain ⟨f0, f1, f2, f3, f4, f5⟩ := hf it (by simp)
    have hl := rv.length
    obtain ⟨q, ⟨hh, v1, e1, c1⟩, hq⟩ := hc
    have P1 := (I.pin q (List.mem_append_left _ hq)).1
    exact next_tuple_end_hot (x1 := q.1) ⟨hh, q.2, v1, P1, e1, c1⟩ (f5 q (List.mem_append_left _ hq)) (show IsTupIter s.heap it a i from st) p (by simp; omega) fun h' eb => ⟨rfl, I.turned (t' := s.toks) (fun b o hb e => eb b o hb e) f0 f1 f3 f4 f5⟩
  self := fun _ _ _ _ _ st h => wpAny_pyIter_tupleiter st h
def iSeq (K : PySem.W.Frag) (tl : TE) : TI := fun σ H R => tl σ H fun x H1 => ∃ a, x = .ref a ∧ (((∃ xs, SqL K H1 a xs) ∧ R (Itl K a) H1) ∨ ((∃ xs, SqT K H1 a xs) ∧ R (Itt K a) H1))
theorem pi_seqM {X : Cx} {tg l : Expr} {tl : TE} (hl : PE X l tl) : PIM X Md tg l (iSeq X.K tl) := by
  refine ⟨fun pins s σ H R I h => ?_⟩
  refine thn (hl.run pins s σ H _ I h) fun v s1 ⟨x, H1, I1, r1, q1⟩ => ?_
  obtain ⟨a, e, q⟩ := q1
  subst e
  cases r1
  have fr : ∀ b ∈ [s1.heap.objs.size], FpOk X pins H1 b := fun b hb => by
    have e : b = s1.heap.objs.size := by simpa using hb
    subst e
    exact I1.fpOk (Nat.le_refl _) (I1.hok.fresh (Nat.le_refl _))
  rcases q with ⟨⟨xs, hq⟩, q⟩ | ⟨⟨xs, hq⟩, q⟩
  · obtain ⟨its, rv, p, hz⟩ := I1.list hq
    refine wpAny_pyIter_list p.isList ?_
    exact ⟨s1.heap.objs.size, [s1.heap.objs.size], _, _, H1, rfl, I1.kept (t' := s1.toks) fun b o e => Heap.get?_push_of_some _ e, turn_listM a _, ⟨_, Heap.get?_push_size _ rfl, rfl, rfl⟩, fr, q⟩
  · obtain ⟨its, rv, p, hz⟩ := I1.tuple hq
    refine wpAny_pyIter_tuple (show s1.heap.IsTuple a its.toArray from p) ?_
    exact ⟨s1.heap.objs.size, [s1.heap.objs.size], _, _, H1, rfl, I1.kept (t' := s1.toks) fun b o e => Heap.get?_push_of_some _ e, turn_tupM a _, ⟨_, Heap.get?_push_size _ rfl, rfl, rfl⟩, fr, q⟩
section
variable {Γ : Mo} {G : Gh} {H : Hp}
theorem y_list {a : Addr} {xs : List V} {ds : List D} {t : St2} (k : SOk Γ G H t) (z : G.Z a) (e : H a = some (.lst xs)) (r : Rps Γ G H xs ds) : Yields Γ G H (Itl Γ.K a) ds := fun i G1 H1 s g k1 => by
  have e1 : H1 a = some (.lst xs) := g.keep a _ e rfl (.inl z)
  have r1 := r.growZ g
  refine ⟨fun d hd => ?_, fun hl => ⟨xs, SqL.of e1, by rw [r1.length]; exact hl⟩⟩
  obtain ⟨v, hv, rv⟩ := r1.get hd
  refine ⟨⟨xs, v, SqL.of e1, hv⟩, fun x H2 hy => ?_⟩
  obtain ⟨rfl, hy⟩ := hy
  have := hy xs (SqL.of e1)
  rw [hv] at this
  cases this
  exact ⟨G1, .refl _ _, k1, rv⟩
theorem y_tup {a : Addr} {xs : List V} {ds : List D} {t : St2} (k : SOk Γ G H t) (e : SqT Γ.K H a xs) (r : Rps Γ G H xs ds) : Yields Γ G H (Itt Γ.K a) ds := fun i G1 H1 s g k1 => by
  have e1 : SqT Γ.K H1 a xs := sqT_growZ g e
  have r1 := r.growZ g
  refine ⟨fun d hd => ?_, fun hl => ⟨xs, e1, by rw [r1.length]; exact hl⟩⟩
  obtain ⟨v, hv, rv⟩ := r1.get hd
  refine ⟨⟨xs, v, e1, hv⟩, fun x H2 hy => ?_⟩
  obtain ⟨rfl, hy⟩ := hy
  have := hy xs e1
  rw [hv] at this
  cases this
  exact ⟨G1, .refl _ _, k1, rv⟩
theorem y_rng (lo : Int) (n : Nat) : Yields Γ G H (Itr lo n) (rangeD lo n) := fun i G1 H1 s g k1 => by
  refine ⟨fun d hd => ?_, fun hl => show n ≤ i from by simpa [rangeD] using hl⟩
  have hi : i < n := by
    have := (List.getElem?_eq_some_iff.mp hd).1
    simpa [rangeD] using this
  refine ⟨hi, fun x H2 hy => ?_⟩
  obtain ⟨rfl, rfl⟩ := hy
  have e : (rangeD lo n)[i]? = some (.int (lo + (i : Nat))) := by simp [rangeD, hi]
  rw [e] at hd
  cases hd
  exact ⟨G1, .refl _ _, k1, .int _⟩
theorem y_rgc (lo c : Int) (n : Nat) : Yields Γ G H (Itc lo c n) (rangeC lo c n) := fun i G1 H1 s g k1 => by
  refine ⟨fun d hd => ?_, fun hl => show n ≤ i from by simpa [rangeC] using hl⟩
  have hi : i < n := by
    have := (List.getElem?_eq_some_iff.mp hd).1
    simpa [rangeC] using this
  refine ⟨hi, fun x H2 hy => ?_⟩
  obtain ⟨rfl, rfl⟩ := hy
  have e : (rangeC lo c n)[i]? = some (.int (lo + (i : Nat) * c)) := by simp [rangeC, hi]
  rw [e] at hd
  cases hd
  exact ⟨G1, .refl _ _, k1, .int _⟩
theorem enumD_get : ∀ (ds : List D) (j i : Nat), (enumD j ds)[i]? = (ds[i]?).map fun d => .tup [.int ((j + i : Nat) : Int), d]
  | [], j, i => by simp [enumD]
  | d :: ds, j, 0 => by simp [enumD]
  | d :: ds, j, i + 1 => by
    simp only [enumD, List.getElem?_cons_succ]
    rw [enumD_get ds (j + 1) i]
    congr 1
    funext d
    have : j + 1 + i = j + (i + 1) := by omega
    rw [this]
theorem enumD_len : ∀ (ds : List D) (j : Nat), (enumD j ds).length = ds.length
  | [], _ => rfl
  | _ :: ds, j => by simp [enumD, enumD_len ds]
theorem y_pair {G1 : Gh} {H1 : Hp} {s : St2} (k1 : SOk Γ G1 H1 s) {T : Addr} {x y : V} {d e : D} (hT : H1 T = none) (rx : Rp Γ G1 H1 x d) (ry : Rp Γ G1 H1 y e) : ∃ G2, Grow G1 H1 G2 (upd H1 T (.tup [x, y])) ∧ SOk Γ G2 (upd H1 T (.tup [x, y])) s ∧ Rp Γ G2 (upd H1 T (.tup [x, y])) (.ref T) (.tup [d, e]) :=
  ⟨G1, .upd G1 _ hT, k1.upd _ hT, .tup (SqT.of upd_same) (.cons (rx.grow k1 (.upd G1 _ hT)) (.cons (ry.grow k1 (.upd G1 _ hT)) .nil))⟩
theorem y_enum {a : Addr} {xs : List V} {ds : List D} {t : St2} (k : SOk Γ G H t) (z : G.Z a) (e : H a = some (.lst xs)) (r : Rps Γ G H xs ds) : Yields Γ G H (Ite Γ.K a) (enumD 0 ds) := fun i G1 H1 s g k1 => by
  have e1 : H1 a = some (.lst xs) := g.keep a _ e rfl (.inl z)
  have r1 := r.growZ g
  refine ⟨fun d hd => ?_, fun hl => ⟨xs, SqL.of e1, by rw [r1.length]; simpa [enumD_len] using hl⟩⟩
  rw [enumD_get] at hd
  cases q : ds[i]? with
  | none => rw [q] at hd; cases hd
  | some d0 =>
    rw [q] at hd
    cases hd
    obtain ⟨v, hv, rv⟩ := r1.get q
    refine ⟨⟨xs, v, SqL.of e1, hv⟩, fun x H2 hy => ?_⟩
    obtain ⟨T, x0, rfl, hT, rfl, hy⟩ := hy
    have := hy xs (SqL.of e1)
    rw [hv] at this
    cases this
    have h0 : ((0 + i : Nat) : Int) = (i : Int) := by omega
    rw [h0]
    exact y_pair k1 hT (.int _) rv
theorem y_enumT {a : Addr} {xs : List V} {ds : List D} {t : St2} (k : SOk Γ G H t) (e : SqT Γ.K H a xs) (r : Rps Γ G H xs ds) : Yields Γ G H (ItT Γ.K a) (enumD 0 ds) := fun i G1 H1 s g k1 => by
  have e1 := sqT_growZ g e
  have r1 := r.growZ g
  refine ⟨fun d hd => ?_, fun hl => ⟨xs, e1, by rw [r1.length]; simpa [enumD_len] using hl⟩⟩
  rw [enumD_get] at hd
  cases q : ds[i]? with
  | none => rw [q] at hd; cases hd
  | some d0 =>
    rw [q] at hd
    cases hd
    obtain ⟨v, hv, rv⟩ := r1.get q
    refine ⟨⟨xs, v, e1, hv⟩, fun x H2 hy => ?_⟩
    obtain ⟨T, x0, rfl, hT, rfl, hy⟩ := hy
    have := hy xs e1
    rw [hv] at this
    cases this
    have h0 : ((0 + i : Nat) : Int) = (i : Int) := by omega
    rw [h0]
    exact y_pair k1 hT (.int _) rv
theorem zipD_get : ∀ (ds es : List D) (i : Nat) (d : D), (zipD ds es)[i]? = some d → ∃ a b, ds[i]? = some a ∧ es[i]? = some b ∧ d = .tup [a, b]
  | [], _, i, d, h => by simp [zipD] at h
  | _ :: _, [], i, d, h => by simp [zipD] at h
  | a :: as, b :: bs, 0, d, h => by simp [zipD] at h; exact ⟨a, b, rfl, rfl, h.symm⟩
  | a :: as, b :: bs, i + 1, d, h => by
    simp [zipD] at h
    simpa using zipD_get as bs i d h
theorem zipD_len : ∀ (ds es : List D) (i : Nat), (zipD ds es).length ≤ i → ds.length ≤ i ∨ es.length ≤ i
  | [], _, i, h => .inl (Nat.zero_le _)
  | _ :: _, [], i, h => .inr (Nat.zero_le _)
  | a :: as, b :: bs, 0, h => by simp [zipD] at h
  | a :: as, b :: bs, i + 1, h => by
    have h : (zipD as bs).length ≤ i := by simpa [zipD] using h
    rcases zipD_len as bs i h with q | q
    · left; simpa using q
    · right; simpa using q
theorem y_zip {a b : Addr} {xs ys : List V} {ds es : List D} {t : St2} (k : SOk Γ G H t) (z : G.Z a) (e : H a = some (.lst xs)) (r : Rps Γ G H xs ds) (z2 : G.Z b) (f : H b = some (.lst ys)) (r2 : Rps Γ G H ys es) : Yields Γ G H (Itz Γ.K a b) (zipD ds es) := fun i G1 H1 s g k1 => by
  have e1 : H1 a = some (.lst xs) := g.keep a _ e rfl (.inl z)
  have f1 : H1 b = some (.lst ys) := g.keep b _ f rfl (.inl z2)
  have r1 := r.growZ g
  have r3 := r2.growZ g
  refine ⟨fun d hd => ?_, fun hl => ⟨xs, ys, SqL.of e1, SqL.of f1, by rw [r1.length, r3.length]; exact zipD_len _ _ _ hl⟩⟩
  obtain ⟨d1, d2, h1, h2, rfl⟩ := zipD_get _ _ _ _ hd
  obtain ⟨v, hv, rv⟩ := r1.get h1
  obtain ⟨u, hu, ru⟩ := r3.get h2
  refine ⟨⟨xs, ys, v, u, SqL.of e1, SqL.of f1, hv, hu⟩, fun x H2 hy => ?_⟩
  obtain ⟨T, x0, y0, rfl, hT, rfl, hy, hy2⟩ := hy
  have := hy xs (SqL.of e1)
  rw [hv] at this
  cases this
  have := hy2 ys (SqL.of f1)
  rw [hu] at this
  cases this
  exact y_pair k1 hT rv ru
theorem y_zipT {a b : Addr} {xs ys : List V} {ds es : List D} {t : St2} (k : SOk Γ G H t) (e : SqT Γ.K H a xs) (r : Rps Γ G H xs ds) (f : SqT Γ.K H b ys) (r2 : Rps Γ G H ys es) : Yields Γ G H (RZ.ItzT Γ.K a b) (zipD ds es) := fun i G1 H1 s g k1 => by
  have e1 := sqT_growZ g e
  have f1 := sqT_growZ g f
  have r1 := r.growZ g
  have r3 := r2.growZ g
  refine ⟨fun d hd => ?_, fun hl => ⟨xs, ys, e1, f1, by rw [r1.length, r3.length]; exact zipD_len _ _ _ hl⟩⟩
  obtain ⟨d1, d2, h1, h2, rfl⟩ := zipD_get _ _ _ _ hd
  obtain ⟨v, hv, rv⟩ := r1.get h1
  obtain ⟨u, hu, ru⟩ := r3.get h2
  refine ⟨⟨xs, ys, v, u, e1, f1, hv, hu⟩, fun x H2 hy => ?_⟩
  obtain ⟨T, x0, y0, rfl, hT, rfl, hy, hy2⟩ := hy
  have := hy xs e1
  rw [hv] at this
  cases this
  have := hy2 ys f1
  rw [hu] at this
  cases this
  exact y_pair k1 hT rv ru
end
theorem rdI.of {Γ : Mo} {W : WX} {σ : L2.St} {G : Gh} {H : Hp} {G1 : Gh} {H1 : Hp} {ds : List D} {s1 : St2} {R : It → Hp → Prop} (g1 : Grow G H G1 H1) (k1 : SOk Γ G1 H1 s1) (q : ∀ J G' H', Grow G H G' H' → SOk Γ G' H' s1 → Yields Γ G' H' J ds → R J H') {J : It} (y : Yields Γ G1 H1 J ds) : R J H1 := q J G1 H1 g1 k1 y
def mX (X : Cx) : Cx → Prop := fun Y => Md Y ∧ (X.calm = true → Y.calm = true)
section
variable {Γ : Mo} {N GN : List Str} {K : Nat → GK} {C : Cl} {W : WX} {s : Sc} {X : Cx}
variable {ea eb ec : E} {p : Pos} {fa fb fc : Bool} {tg : Expr}
theorem PI.calm {X : Cx} {tg e : Expr} {t : TI} (h : PI X tg e t) (hc : X.calm = true) : PIM X (mX X) tg e t := (PIM.of h).mono fun _ y => y.2 hc
theorem i_seq (c : Cxt Γ N GN K C W s X) (ha : PE X (back N GN ea) (rd Γ W fa (ev C ea))) : PIM X (mX X) tg (backI N GN (.seq ea)) (rdI Γ W (evI C (.seq ea))) := by
  have hK' : Γ.K = X.K := c.hK.symm
  refine PIM.imp ((pi_seqM ha).mono fun _ y => y.1) fun σ H R ⟨env, G, t, er, k, q⟩ =>
    rd.go er k (show PostR Γ W σ G H (M.bind (ev C ea env) (fun x => match x with | .lst l => M.pure l | .tup l => M.pure l | _ => M.no) t) (fun ds s' => ∀ J G' H', Grow G H G' H' → SOk Γ G' H' s' → Yields Γ G' H' J ds → R J H') from q) fun x s1 v G1 H1 g1 k1 r1 er1 q1 => ?_
  cases r1 with
  | @lst l ys es hz hl rl =>
    refine ⟨l, rfl, .inl ⟨⟨ys, SqL.of hl⟩, ?_⟩⟩
    rw [← hK']
    exact rdI.of (Γ := Γ) (W := W) (σ := σ) g1 k1 q1 (y_list k1 hz hl rl)
  | @tup l ys es hl rl =>
    refine ⟨l, rfl, .inr ⟨⟨ys, by rw [← hK']; exact hl⟩, ?_⟩⟩
    rw [← hK']
    exact rdI.of (Γ := Γ) (W := W) (σ := σ) g1 k1 q1 (y_tup k1 hl rl)
  | _ => exact (show False from q1).elim
theorem gk_rng (c : Cxt Γ N GN K C W s X) {g : Nat} (hg : s.gls.contains g = true) (h : (K g).isRng = true) : nm GN g = "range" ∧ Gl X "range" ∧ X.mg "range" = none := by
  have f := c.gf g
  unfold GFact at f
  have hk : K g = .rng := by cases q : K g <;> rw [q] at h <;> first | rfl | cases h
  rw [hk] at f
  obtain ⟨a, _, _⟩ := c.gl hg
  rw [f.1] at a
  exact ⟨f.1, a, f.2⟩
theorem gk_enu (c : Cxt Γ N GN K C W s X) {g : Nat} (hg : s.gls.contains g = true) (h : (K g).isEnu = true) : nm GN g = "enumerate" ∧ Gl X "enumerate" ∧ X.mg "enumerate" = none := by
  have f := c.gf g
  unfold GFact at f
  have hk : K g = .enu := by cases q : K g <;> rw [q] at h <;> first | rfl | cases h
  rw [hk] at f
  obtain ⟨a, _, _⟩ := c.gl hg
  rw [f.1] at a
  exact ⟨f.1, a, f.2⟩
theorem gk_zip (c : Cxt Γ N GN K C W s X) {g : Nat} (hg : s.gls.contains g = true) (h : (K g).isZip = true) : nm GN g = "zip" ∧ Gl X "zip" ∧ X.mg "zip" = none := by
  have f := c.gf g
  unfold GFact at f
  have hk : K g = .zip := by cases q : K g <;> rw [q] at h <;> first | rfl | cases h
  rw [hk] at f
  obtain ⟨a, _, _⟩ := c.gl hg
  rw [f.1] at a
  exact ⟨f.1, a, f.2⟩
theorem int64_of {i : Int} (h : int64 i = true) : -(2 ^ 62) ≤ i ∧ i < 2 ^ 62 := by
  unfold int64 at h
  obtain ⟨h1, h2⟩ := Bool.and_eq_true_iff.mp h
  exact ⟨of_decide_eq_true h1, of_decide_eq_true h2⟩
theorem i_rg1 (c : Cxt Γ N GN K C W s X) {g : Nat} {gp : Pos} (hc : s.cold = true) (hg : s.gls.contains g = true) (hk : (K g).isRng = true) (ha : PE X (back N GN ea) (rd Γ W fa (ev C ea))) : PIM X (mX X) tg (backI N GN (.rg1 g ea gp p)) (rdI Γ W (evI C (.rg1 g ea gp p))) := by
  obtain ⟨e, a, b⟩ := gk_rng c hg hk
  show PIM X (mX X) tg (.Call (.Name (nm GN g) gp) [back N GN ea] [] p) _
  rw [e]
  refine PIM.imp (PI.calm (pi_range1 a b (pa_cons ha pa_nil ((pl_back N GN ea).st _ _)) ((pl_back N GN ea).st _ _)) (c.cold hc)) fun σ H R ⟨env, G, t, er, k, q⟩ =>
    rd.go er k (show PostR Γ W σ G H (M.bind (ev C ea env) (fun x => match x with | .int j => if int64 j then M.pure (rangeD 0 j.toNat) else M.no | _ => M.no) t) (fun ds s' => ∀ J G' H', Grow G H G' H' → SOk Γ G' H' s' → Yields Γ G' H' J ds → R J H') from q) fun x s1 v G1 H1 g1 k1 r1 er1 q1 => ?_
  cases r1 with
  | int j =>
    have q1 : PostR Γ W σ G H ((if int64 j then M.pure (rangeD 0 j.toNat) else M.no) s1) (fun ds s' => ∀ J G' H', Grow G H G' H' → SOk Γ G' H' s' → Yields Γ G' H' J ds → R J H') := q1
    by_cases hj : int64 j = true
    · rw [if_pos hj] at q1
      exact ⟨j, rfl, (int64_of hj).1, (int64_of hj).2, rdI.of (Γ := Γ) (W := W) (σ := σ) g1 k1 q1 (y_rng 0 _)⟩
    · rw [if_neg hj] at q1; exact (show False from q1).elim
  | _ => exact (show False from q1).elim
theorem pR.mono {σ : L2.St} {G G1 : Gh} {H H1 : Hp} {r : Option (Res (List D) × St2)} {R : It → Hp → Prop} (g1 : Grow G H G1 H1) (q : PostR Γ W σ G H r (fun ds s' => ∀ J G' H', Grow G H G' H' → SOk Γ G' H' s' → Yields Γ G' H' J ds → R J H')) :
    PostR Γ W σ G1 H1 r (fun ds s' => ∀ J G' H', Grow G1 H1 G' H' → SOk Γ G' H' s' → Yields Γ G' H' J ds → R J H') :=
  PostR.mono g1 (fun ds s z J G' H' g' k y => z J G' H' (g1.trans g') k y) q
theorem i_rg2 (c : Cxt Γ N GN K C W s X) {g : Nat} {gp : Pos} (hc : s.cold = true) (hg : s.gls.contains g = true) (hk : (K g).isRng = true) (ha : PE X (back N GN ea) (rd Γ W fa (ev C ea))) (hb : PE X (back N GN eb) (rd Γ W fb (ev C eb))) :
    PIM X (mX X) tg (backI N GN (.rg2 g ea eb gp p)) (rdI Γ W (evI C (.rg2 g ea eb gp p))) := by
  obtain ⟨e, a, b⟩ := gk_rng c hg hk
  show PIM X (mX X) tg (.Call (.Name (nm GN g) gp) [back N GN ea, back N GN eb] [] p) _
  rw [e]
  have s2 : starEach [back N GN eb] X.env = [(false, eval (back N GN eb) X.env)] := (pl_back N GN eb).st _ _
  have s1 : starEach [back N GN ea, back N GN eb] X.env = [(false, eval (back N GN ea) X.env), (false, eval (back N GN eb) X.env)] := by rw [(pl_back N GN ea).st, s2]
  refine PIM.imp (PI.calm (pi_range2 a b (pa_cons ha (pa_cons hb pa_nil s2) ((pl_back N GN ea).st _ _)) s1 s2) (c.cold hc)) fun σ H R ⟨env, G, t, er, k, q⟩ =>
    rd.go er k (show PostR Γ W σ G H (M.bind (ev C ea env) (fun x => M.bind (ev C eb env) fun y => match x, y with | .int i, .int j => if int64 i && int64 j then M.pure (rangeD i (j - i).toNat) else M.no | _, _ => M.no) t) (fun ds s' => ∀ J G' H', Grow G H G' H' → SOk Γ G' H' s' → Yields Γ G' H' J ds → R J H') from q) fun x s1 v G1 H1 g1 k1 r1 er1 q1 =>
    rd.go er1 k1 (pR.mono g1 q1) fun y s2 u G2 H2 g2 k2 r2 er2 q2 => ?_
  cases r1 with
  | int i =>
    cases r2 with
    | int j =>
      have q2 := pR.mono g2 (show PostR Γ W σ G1 H1 ((if int64 i && int64 j then M.pure (rangeD i (j - i).toNat) else M.no) s2) (fun ds s' => ∀ J G' H', Grow G1 H1 G' H' → SOk Γ G' H' s' → Yields Γ G' H' J ds → R J H') from q2)
      by_cases hj : (int64 i && int64 j) = true
      · rw [if_pos hj] at q2
        obtain ⟨h1, h2⟩ := Bool.and_eq_true_iff.mp hj
        exact ⟨i, j, rfl, ⟨(int64_of h1).1, (int64_of h1).2, (int64_of h2).1, (int64_of h2).2⟩, rdI.of (Γ := Γ) (W := W) (σ := σ) (.refl _ _) k2 q2 (y_rng i _)⟩
      · rw [if_neg hj] at q2; exact (show False from q2).elim
    | _ => exact (show False from q2).elim
  | _ => exact (show False from q2).elim
theorem i_rg3 (c : Cxt Γ N GN K C W s X) {g : Nat} {gp : Pos} (hc : s.cold = true) (hg : s.gls.contains g = true) (hk : (K g).isRng = true) (ha : PE X (back N GN ea) (rd Γ W fa (ev C ea))) (hb : PE X (back N GN eb) (rd Γ W fb (ev C eb))) (hd : PE X (back N GN ec) (rd Γ W fc (ev C ec))) :
    PIM X (mX X) tg (backI N GN (.rg3 g ea eb ec gp p)) (rdI Γ W (evI C (.rg3 g ea eb ec gp p))) := by
  obtain ⟨e, a, b⟩ := gk_rng c hg hk
  show PIM X (mX X) tg (.Call (.Name (nm GN g) gp) [back N GN ea, back N GN eb, back N GN ec] [] p) _
  rw [e]
  refine PIM.imp (PI.calm (pi_range3 a b (pa_cons ha (pa_cons hb (pa_cons hd pa_nil ((pl_back N GN ec).st _ _)) ((pl_back N GN eb).st _ _)) ((pl_back N GN ea).st _ _)) ((pl_back N GN ea).st _ _) (star_backs N GN p X.env (.cons eb (.cons ec .nil)))) (c.cold hc)) fun σ H R ⟨env, G, t, er, k, q⟩ =>
    rd.go er k (show PostR Γ W σ G H (M.bind (ev C ea env) (fun x => M.bind (ev C eb env) fun y => M.bind (ev C ec env) fun z => match x, y, z with | .int i, .int j, .int k => if k ≠ 0 ∧ k.natAbs < 1073741824 ∧ Builtin.Range.small i j k = true ∧ 0 ≤ Builtin.Range.rangeSize i j k then M.pure (rangeC i k (Builtin.Range.rangeSize i j k).toNat) else M.no | _, _, _ => M.no) t) (fun ds s' => ∀ J G' H', Grow G H G' H' → SOk Γ G' H' s' → Yields Γ G' H' J ds → R J H') from q) fun x s1 v G1 H1 g1 k1 r1 er1 q1 =>
    rd.go er1 k1 (pR.mono g1 q1) fun y s2 u G2 H2 g2 k2 r2 er2 q2 =>
    rd.go er2 k2 (pR.mono g2 q2) fun z s3 w G3 H3 g3 k3 r3 er3 q3 => ?_
  cases r1 with
  | int i =>
    cases r2 with
    | int j =>
      cases r3 with
      | int l =>
        have q3 := pR.mono g3 (show PostR Γ W σ G2 H2 ((if l ≠ 0 ∧ l.natAbs < 1073741824 ∧ Builtin.Range.small i j l = true ∧ 0 ≤ Builtin.Range.rangeSize i j l then M.pure (rangeC i l (Builtin.Range.rangeSize i j l).toNat) else M.no) s3) (fun ds s' => ∀ J G' H', Grow G2 H2 G' H' → SOk Γ G' H' s' → Yields Γ G' H' J ds → R J H') from q3)
        by_cases hj : l ≠ 0 ∧ l.natAbs < 1073741824 ∧ Builtin.Range.small i j l = true ∧ 0 ≤ Builtin.Range.rangeSize i j l
        · rw [if_pos hj] at q3
          exact ⟨i, j, l, _, rfl, ⟨hj.1, hj.2.1, hj.2.2.1, (Int.toNat_of_nonneg hj.2.2.2).symm⟩, rdI.of (Γ := Γ) (W := W) (σ := σ) (.refl _ _) k3 q3 (y_rgc i l _)⟩
        · rw [if_neg hj] at q3; exact (show False from q3).elim
      | _ => exact (show False from q3).elim
    | _ => exact (show False from q3).elim
  | _ => exact (show False from q3).elim
theorem i_en (c : Cxt Γ N GN K C W s X) {g : Nat} {gp : Pos} {elts : List Expr} {kk : Nat} {tp : Pos} (hc : s.cold = true) (hg : s.gls.contains g = true) (hk : (K g).isEnu = true) (ha : PE X (back N GN ea) (rd Γ W fa (ev C ea))) :
    PIM X (mX X) (.Tuple elts kk tp) (backI N GN (.en g ea gp p)) (rdI Γ W (evI C (.en g ea gp p))) := by
  have hK' : Γ.K = X.K := c.hK.symm
  obtain ⟨e, a, b⟩ := gk_enu c hg hk
  show PIM X (mX X) _ (.Call (.Name (nm GN g) gp) [back N GN ea] [] p) _
  rw [e]
  refine PIM.imp (PI.calm (pi_enumA a b (pa_cons ha pa_nil ((pl_back N GN ea).st _ _)) ((pl_back N GN ea).st _ _)) (c.cold hc)) fun σ H R ⟨env, G, t, er, k, q⟩ =>
    rd.go er k (show PostR Γ W σ G H (M.bind (ev C ea env) (fun x => match x with | .lst l => M.pure (enumD 0 l) | .tup l => M.pure (enumD 0 l) | _ => M.no) t) (fun ds s' => ∀ J G' H', Grow G H G' H' → SOk Γ G' H' s' → Yields Γ G' H' J ds → R J H') from q) fun x s1 v G1 H1 g1 k1 r1 er1 q1 => ?_
  cases r1 with
  | @lst l ys es hz hl rl =>
    refine ⟨l, ys, rfl, .inl ⟨SqL.of hl, ?_⟩⟩
    rw [← hK']
    exact rdI.of (Γ := Γ) (W := W) (σ := σ) g1 k1 q1 (y_enum k1 hz hl rl)
  | @tup l ys es hl rl =>
    refine ⟨l, ys, rfl, .inr ⟨by rw [← hK']; exact hl, ?_⟩⟩
    rw [← hK']
    exact rdI.of (Γ := Γ) (W := W) (σ := σ) g1 k1 q1 (y_enumT k1 hl rl)
  | _ => exact (show False from q1).elim
def HasK (Γ : Mo) (G : Gh) (H : Hp) (t : Bool) (a : Addr) (xs : List V) : Prop := match t with
  | false => G.Z a ∧ H a = some (.lst xs)
  | true => SqT Γ.K H a xs
theorem y_zipK {t u : Bool} {a b : Addr} {xs ys : List V} {ds es : List D} {st : St2} (k : SOk Γ G H st) (e : HasK Γ G H t a xs) (r : Rps Γ G H xs ds) (f : HasK Γ G H u b ys) (r2 : Rps Γ G H ys es) : Yields Γ G H (ItzK t u Γ.K a b) (zipD ds es) := fun i G1 H1 s g k1 => by
  have e1 : SqK t Γ.K H1 a xs := by
    cases t
    · exact SqL.of (g.keep a _ e.2 rfl (.inl e.1))
    · exact sqT_growZ g e
  have f1 : SqK u Γ.K H1 b ys := by
    cases u
    · exact SqL.of (g.keep b _ f.2 rfl (.inl f.1))
    · exact sqT_growZ g f
  have r1 := r.growZ g
  have r3 := r2.growZ g
  refine ⟨fun d hd => ?_, fun hl => ⟨xs, ys, e1, f1, by rw [r1.length, r3.length]; exact zipD_len _ _ _ hl⟩⟩
  obtain ⟨d1, d2, h1, h2, rfl⟩ := zipD_get _ _ _ _ hd
  obtain ⟨v, hv, rv⟩ := r1.get h1
  obtain ⟨w, hw, rw1⟩ := r3.get h2
  refine ⟨⟨xs, ys, v, w, e1, f1, hv, hw⟩, fun x H2 hy => ?_⟩
  obtain ⟨T, x0, y0, rfl, hT, rfl, hy, hy2⟩ := hy
  have := hy xs e1
  rw [hv] at this
  cases this
  have := hy2 ys f1
  rw [hw] at this
  cases this
  exact y_pair k1 hT rv rw1
theorem i_zp (c : Cxt Γ N GN K C W s X) {g : Nat} {gp : Pos} {elts : List Expr} {kk : Nat} {tp : Pos} (hc : s.cold = true) (hg : s.gls.contains g = true) (hk : (K g).isZip = true) (ha : PE X (back N GN ea) (rd Γ W fa (ev C ea))) (hb : PE X (back N GN eb) (rd Γ W fb (ev C eb))) :
    PIM X (mX X) (.Tuple elts kk tp) (backI N GN (.zp g ea eb gp p)) (rdI Γ W (evI C (.zp g ea eb gp p))) := by
  have hK' : Γ.K = X.K := c.hK.symm
  obtain ⟨e, a, b⟩ := gk_zip c hg hk
  show PIM X (mX X) _ (.Call (.Name (nm GN g) gp) [back N GN ea, back N GN eb] [] p) _
  rw [e]
  refine PIM.imp (PI.calm (pi_zipM a b (pa_cons ha (pa_cons hb pa_nil ((pl_back N GN eb).st _ _)) ((pl_back N GN ea).st _ _)) ((pl_back N GN ea).st _ _) (star_backs N GN p X.env (.cons eb .nil))) (c.cold hc)) fun σ H R ⟨env, G, t, er, k, q⟩ =>
    rd.go er k (show PostR Γ W σ G H (M.bind (ev C ea env) (fun x => M.bind (ev C eb env) fun y => match x, y with | .lst l, .lst r => M.pure (zipD l r) | .tup l, .tup r => M.pure (zipD l r) | .lst l, .tup r => M.pure (zipD l r) | .tup l, .lst r => M.pure (zipD l r) | _, _ => M.no) t) (fun ds s' => ∀ J G' H', Grow G H G' H' → SOk Γ G' H' s' → Yields Γ G' H' J ds → R J H') from q) fun x s1 v G1 H1 g1 k1 r1 er1 q1 =>
    rd.go er1 k1 (pR.mono g1 q1) fun y s2 u G2 H2 g2 k2 r2 er2 q2 => ?_
  have r1 := r1.grow k1 g2
  cases r1 with
  | @lst l xs es hz hl rl =>
    cases r2 with
    | @lst l2 ys es2 hz2 hl2 rl2 =>
      have q2 := pR.mono g2 (show PostR Γ W σ G1 H1 (M.pure (zipD es es2) s2) (fun ds s' => ∀ J G' H', Grow G1 H1 G' H' → SOk Γ G' H' s' → Yields Γ G' H' J ds → R J H') from q2)
      refine ⟨false, false, l, l2, xs, ys, rfl, (show SqL X.K H2 l xs from SqL.of hl), (show SqL X.K H2 l2 ys from SqL.of hl2), ?_⟩
      rw [← hK']
      exact rdI.of (Γ := Γ) (W := W) (σ := σ) (.refl _ _) k2 q2 (y_zipK (t := false) (u := false) k2 ⟨hz, hl⟩ rl ⟨hz2, hl2⟩ rl2)
    | @tup l2 ys es2 hl2 rl2 =>
      have q2 := pR.mono g2 (show PostR Γ W σ G1 H1 (M.pure (zipD es es2) s2) (fun ds s' => ∀ J G' H', Grow G1 H1 G' H' → SOk Γ G' H' s' → Yields Γ G' H' J ds → R J H') from q2)
      refine ⟨false, true, l, l2, xs, ys, rfl, (show SqL X.K H2 l xs from SqL.of hl), (show SqT X.K H2 l2 ys from by rw [← hK']; exact hl2), ?_⟩
      rw [← hK']
      exact rdI.of (Γ := Γ) (W := W) (σ := σ) (.refl _ _) k2 q2 (y_zipK (t := false) (u := true) k2 ⟨hz, hl⟩ rl hl2 rl2)
    | _ => exact (show False from q2).elim
  | @tup l xs es hl rl =>
    cases r2 with
    | @lst l2 ys es2 hz2 hl2 rl2 =>
      have q2 := pR.mono g2 (show PostR Γ W σ G1 H1 (M.pure (zipD es es2) s2) (fun ds s' => ∀ J G' H', Grow G1 H1 G' H' → SOk Γ G' H' s' → Yields Γ G' H' J ds → R J H') from q2)
      refine ⟨true, false, l, l2, xs, ys, rfl, (show SqT X.K H2 l xs from by rw [← hK']; exact hl), (show SqL X.K H2 l2 ys from SqL.of hl2), ?_⟩
      rw [← hK']
      exact rdI.of (Γ := Γ) (W := W) (σ := σ) (.refl _ _) k2 q2 (y_zipK (t := true) (u := false) k2 hl rl ⟨hz2, hl2⟩ rl2)
    | @tup l2 ys es2 hl2 rl2 =>
      have q2 := pR.mono g2 (show PostR Γ W σ G1 H1 (M.pure (zipD es es2) s2) (fun ds s' => ∀ J G' H', Grow G1 H1 G' H' → SOk Γ G' H' s' → Yields Γ G' H' J ds → R J H') from q2)
      refine ⟨true, true, l, l2, xs, ys, rfl, (show SqT X.K H2 l xs from by rw [← hK']; exact hl), (show SqT X.K H2 l2 ys from by rw [← hK']; exact hl2), ?_⟩
      rw [← hK']
      exact rdI.of (Γ := Γ) (W := W) (σ := σ) (.refl _ _) k2 q2 (y_zipK (t := true) (u := true) k2 hl rl hl2 rl2)
    | _ => exact (show False from q2).elim
  | _ => exact (show False from q2).elim
end
end Co
set_option Elab.async false
set_option linter.all false
set_option maxRecDepth 100000
set_option maxHeartbeats 4000000
namespace Co
open PySem PySem.Spec PyProof.Rows L2 HotX L2H
theorem wipe_set {σ : L2.St} {i : Nat} {x : Option V} : ∀ vs : List Nat, i ∈ vs → wipe (σ.set i x) vs = wipe σ vs
  | [], h => by cases h
  | v :: vs, h => by
    show (wipe (σ.set i x) vs).set v none = (wipe σ vs).set v none
    by_cases h2 : i ∈ vs
    · rw [wipe_set vs h2]
    · have e : i = v := (List.mem_cons.mp h).resolve_right h2
      subst e
      have out : ∀ vs : List Nat, i ∉ vs → wipe (σ.set i x) vs = (wipe σ vs).set i x := by
        intro vs
        induction vs with
        | nil => intro _; rfl
        | cons u us ih =>
          intro hu
          show (wipe (σ.set i x) us).set u none = ((wipe σ us).set u none).set i x
          rw [ih (fun z => hu (List.mem_cons_of_mem _ z)), List.set_comm _ _ (fun z => hu (by rw [z]; exact List.mem_cons_self))]
      rw [out vs h2, List.set_set]
structure Sto (X : Cx) (w : List Nat) : Prop where
  nd : X.N.Nodup
  md : Md X
  at_ : ∀ i ∈ w, ∃ x, X.N[i]? = some x ∧ Loc X.env.scope x ∧ (X.fn x = true ∨ X.env.scope.names.lookup x = some .local)
theorem stoB_ok {X : Cx} {N : List Str} {sc lsc : Scope} {w : List Nat} (hN : X.N = N) (nd : N.Nodup) (md : Md X) (hs : X.env.scope = sc) (hf : ∀ x, lsc.names.lookup x = some .cell → X.fn x = true) (h : stoB N sc lsc w = true) : Sto X w := by
  refine ⟨by rw [hN]; exact nd, md, fun i hi => ?_⟩
  have h1 := List.all_eq_true.mp h i hi
  cases e : N[i]? with
  | none => rw [e] at h1; cases h1
  | some x =>
    rw [e] at h1
    refine ⟨x, by rw [hN]; exact e, ?_⟩
    rw [hs]
    have h1 : (match sc.names.lookup x with | some .local => true | some .cell => lsc.names.lookup x == some .cell | _ => false) = true := h1
    cases q : sc.names.lookup x with
    | none => rw [q] at h1; cases h1
    | some k =>
      rw [q] at h1
      cases k with
      | «local» => exact ⟨.inl q, .inr rfl⟩
      | cell => exact ⟨.inr q, .inl (hf x (by simpa using h1))⟩
      | free => cases h1
      | globalExplicit => cases h1
      | globalImplicit => cases h1
mutual
def T.slots : T → List Nat
  | .nm i _ => [i]
  | .tp ts _ _ => ts.slots
def Ts.slots : Ts → List Nat
  | .nil => []
  | .cons t ts => t.slots ++ ts.slots
end
def gT (Γ : Mo) (w : List Nat) (t : T) : TG := fun v σ H Q => ∃ env G s d env', ER Γ G H env σ ∧ SOk Γ G H s ∧ Rp Γ G H v d ∧ tgt t d env = some env' ∧ ∀ σ', ER Γ G H env' σ' → (∀ vs : List Nat, (∀ i ∈ w, i ∈ vs) → wipe σ' vs = wipe σ vs) → (∀ j, j ∉ t.slots → σ'.getD j none = σ.getD j none) → Q σ' H
def gTs (Γ : Mo) (w : List Nat) (t : Ts) : TGs := fun v σ H Q => ∃ env G s d env', ER Γ G H env σ ∧ SOk Γ G H s ∧ Rps Γ G H v d ∧ tgts t d env = some env' ∧ ∀ σ', ER Γ G H env' σ' → (∀ vs : List Nat, (∀ i ∈ w, i ∈ vs) → wipe σ' vs = wipe σ vs) → (∀ j, j ∉ t.slots → σ'.getD j none = σ.getD j none) → Q σ' H
theorem PG.imp {X : Cx} {e : Expr} {t t' : TG} (h : PG X e t) (k : ∀ v σ H Q, t' v σ H Q → t v σ H Q) : PG X e t' := ⟨fun pins s σ H v u Q I r q => h.run pins s σ H v u Q I r (k v σ H Q q)⟩
theorem PGs.imp {X : Cx} {e : List Expr} {t t' : TGs} (h : PGs X e t) (k : ∀ v σ H Q, t' v σ H Q → t v σ H Q) : PGs X e t' := ⟨fun pins s σ H v u Q I r q => h.run pins s σ H v u Q I r (k v σ H Q q)⟩
def Ts.len : Ts → Nat
  | .nil => 0
  | .cons _ ts => ts.len + 1
theorem tgts_len : ∀ (ts : Ts) (ds : List D) (env env' : En), tgts ts ds env = some env' → ds.length = ts.len
  | .nil, [], _, _, _ => rfl
  | .nil, _ :: _, _, _, h => by simp [tgts] at h
  | .cons _ _, [], _, _, h => by simp [tgts] at h
  | .cons t ts, d :: ds, env, env', h => by
    rw [tgts] at h
    cases e : tgt t d env with
    | none => rw [e] at h; cases h
    | some env1 =>
      rw [e] at h
      show ds.length + 1 = ts.len + 1
      rw [tgts_len ts ds env1 env' h]
section
variable (N GN : List Str)
theorem ae_back (X : Cx) (t : T) (ts : List Expr) : assignEach (backT N GN t :: ts) X.env = (false, assign (backT N GN t) X.env) :: assignEach ts X.env := by
  cases t <;> rfl
theorem aes_back (X : Cx) : ∀ ts : Ts, (assignEach (backTs N GN ts) X.env).length = ts.len ∧ (assignEach (backTs N GN ts) X.env).findIdx? (·.1) = none
  | .nil => ⟨rfl, rfl⟩
  | .cons t ts => by
    show (assignEach (backT N GN t :: backTs N GN ts) X.env).length = ts.len + 1 ∧ (assignEach (backT N GN t :: backTs N GN ts) X.env).findIdx? (·.1) = none
    obtain ⟨h1, h2⟩ := aes_back X ts
    rw [ae_back]
    refine ⟨by rw [List.length_cons, h1], ?_⟩
    rw [List.findIdx?_cons, h2]
    rfl
mutual
theorem g_T {Γ : Mo} {X : Cx} {w : List Nat} (hK : X.K = Γ.K) (st : Sto X w) (hN : X.N = N) : ∀ t : T, t.ok w = true → PG X (backT N GN t) (gT Γ w t)
  | .nm i p, h => by
    obtain ⟨x, hx, hl, hf⟩ := st.at_ i (by simpa [T.ok] using h)
    show PG X (.Name (nm N i) p) _
    have e : nm N i = x := nm_of (by rw [← hN]; exact hx)
    rw [e]
    refine PG.imp (pg_name (pos := p) st.nd hx hl hf) fun v σ H Q q => ?_
    obtain ⟨env, G, s, d, env', er, k, r, et, q⟩ := q
    have et : some (env.set i (.val d)) = some env' := et
    cases et
    refine q (σ.set i (some v)) ?_ (fun vs hv => wipe_set vs (hv i (by simpa [T.ok] using h))) (fun j hj => by
      have hj : j ≠ i := by simpa [T.slots] using hj
      rw [List.getD_eq_getElem?_getD, List.getD_eq_getElem?_getD, List.getElem?_set_ne (Ne.symm hj)])
    by_cases hi : i < env.length
    · exact er.set r hi
    · rw [set_ge _ _ _ hi, set_ge _ _ _ (by rw [← er.len]; exact hi)]
      exact er
  | .tp ts kk p, h => by
    obtain ⟨h1, h2⟩ := aes_back N GN X ts
    refine PG.imp (pg_tupM (k := kk) (pos := p) st.md (g_Ts hK st hN ts (by simpa [T.ok] using h)) h1 h2) fun v σ H Q q => ?_
    obtain ⟨env, G, s, d, env', er, k, r, et, q⟩ := q
    cases r with
    | @tup l xs ds hl rl =>
      have et : tgts ts ds env = some env' := et
      exact ⟨l, xs, rfl, by rw [hK]; exact hl, by rw [rl.length]; exact tgts_len _ _ _ _ et, env, G, s, ds, env', er, k, rl, et, q⟩
    | _ => cases et
theorem g_Ts {Γ : Mo} {X : Cx} {w : List Nat} (hK : X.K = Γ.K) (st : Sto X w) (hN : X.N = N) : ∀ ts : Ts, ts.ok w = true → PGs X (backTs N GN ts) (gTs Γ w ts)
  | .nil, _ => by
    refine PGs.imp pgs_nil fun v σ H Q q => ?_
    obtain ⟨env, G, s, ds, env', er, k, r, et, q⟩ := q
    cases ds with
    | nil =>
      cases r
      cases et
      exact ⟨rfl, q σ er (fun _ _ => rfl) (fun _ _ => rfl)⟩
    | cons _ _ => cases et
  | .cons t ts, h => by
    obtain ⟨h1, h2⟩ := Bool.and_eq_true_iff.mp (show (t.ok w && ts.ok w) = true from h)
    refine PGs.imp (pgs_cons (g_T hK st hN t h1) (g_Ts hK st hN ts h2) (by rw [ae_back]; rfl)) fun v σ H Q q => ?_
    obtain ⟨env, G, s, ds, env', er, k, r, et, q⟩ := q
    cases r with
    | nil => cases et
    | @cons v vs d ds r rs =>
      have et : (match tgt t d env with | some env' => tgts ts ds env' | none => none) = some env' := et
      cases e : tgt t d env with
      | none => rw [e] at et; cases et
      | some env1 =>
        rw [e] at et
        refine ⟨v, vs, rfl, env, G, s, d, env1, er, k, r, e, fun σ1 er1 w1 j1 => ?_⟩
        exact ⟨env1, G, s, ds, env', er1, k, rs, et, fun σ' er' w' j' => q σ' er' (fun vs hv => (w' vs hv).trans (w1 vs hv)) fun j hj => (j' j fun z => hj (by simp [Ts.slots, z])).trans (j1 j fun z => hj (by simp [Ts.slots, z]))⟩
end
end
abbrev noW : WX := fun _ _ _ _ => False
theorem PostR.calm_to {Γ : Mo} {W W' : WX} {σ σ' : L2.St} {G G' : Gh} {H H' : Hp} {s : St2} {α β : Type} {m : M α} {k : α → M β} {R : β → St2 → Prop} {Q : α → St2 → Prop} (h : PostR Γ W σ G H (M.bind (M.calm m) k s) R) (hQ : ∀ a s1, m s = some (.ok a, s1) → PostR Γ W σ G H (k a s1) R → Q a s1) : PostR Γ W' σ' G' H' (m s) Q := by
  unfold M.bind M.calm at h
  cases e : m s with
  | none => rw [e] at h; exact h
  | some q =>
    obtain ⟨r, s'⟩ := q
    rw [e] at h
    cases r with
    | ok a => exact hQ a s' e h
    | ex g n => exact h.elim
def tOf (Γ : Mo) (C : Cl) : Es → TT
  | .cons e .nil => rdT Γ noW (ev C e)
  | _ => tYes
theorem tOf_nil {Γ : Mo} {C : Cl} {σ : L2.St} {H : Hp} {Q : Bool → Hp → Prop} (h : Q true H) : tOf Γ C .nil σ H Q := h
theorem if_t {A B : Prop} (h : A) : if true = true then A else B := by rw [if_pos rfl]; exact h
theorem compW {Γ : Mo} {W : WX} {C : Cl} {elt : E} {t : T} {cs : Es} {own : List Nat} {env : En} {G1 : Gh} {H1 : Hp} {σ : L2.St} {s1 : St2} {ds : List D} {J : It} {Q : VK} {fr : Bool}
    (hcs : (match cs with | .nil => true | .cons _ .nil => true | _ => false) = true) (k1 : SOk Γ G1 H1 s1) (er : ER Γ G1 H1 env σ) (y : Yields Γ G1 H1 J ds)
    (q : PostR Γ W σ G1 H1 (compL (fun d => tgt t d (env.wipe own)) (fun e => evB C .And cs e) (fun e => ev C elt e) ds [] s1) fun d s' => PostV Γ G1 H1 s' true d Q)
    (ht : t.ok own = true) (D : Addr) (hD : H1 D = none) :
    ∃ W : Nat → Nat → Hp → Prop, (∃ m, W 0 m (upd H1 D (HO.lst []))) ∧ ∀ (i m : Nat) (H : Hp), W i m H →
      (J.stop i H ∧ Q (V.ref D) H) ∨ (J.go i H ∧ ∃ Nx : Hp → Prop, (∀ (H' : Hp), Nx H' → ∃ m', m' < m ∧ W (i + 1) m' H') ∧ ∀ (x : V) (H' : Hp), J.yld i H x H' →
        gT Γ own t x (wipe σ own) H' fun σ2 H2 => wipe σ2 own = wipe σ own ∧ tOf Γ C cs σ2 H2 fun b H3 => if b = true then rd Γ noW fr (ev C elt) σ2 H3 fun y H4 => ∃ acc, H4 D = some (HO.lst acc) ∧ acc.length < sizeLine ∧ Nx (upd H4 D (HO.lst (acc ++ [y]))) else Nx H3) := by
  refine ⟨fun i m H => m = ds.length - i ∧ i ≤ ds.length ∧ ∃ G t' acc xs, Grow G1 H1 G H ∧ SOk Γ G H t' ∧ ¬ G.Z D ∧ G.cup ≠ some D ∧ H D = some (.lst xs) ∧ Rps Γ G H xs acc ∧
    PostR Γ W σ G1 H1 (compL (fun d => tgt t d (env.wipe own)) (fun e => evB C .And cs e) (fun e => ev C elt e) (ds.drop i) acc t') fun d s' => PostV Γ G1 H1 s' true d Q, ⟨ds.length, rfl, Nat.zero_le _, G1, s1, [], [], .upd G1 _ hD, k1.upd _ hD, fun z => k1.zin D z hD, k1.nup hD, upd_same, .nil, q⟩, ?_⟩
  rintro i m H ⟨rfl, hi, G, t', acc, xs, g, k, nz, nc, eD, r, q⟩
  obtain ⟨yg, ys⟩ := y i G H t' (g.toZ k1) k
  by_cases hlt : i < ds.length
  · have hd : ds[i]? = some ds[i] := List.getElem?_eq_getElem hlt
    obtain ⟨go, yl⟩ := yg _ hd
    have q : PostR Γ W σ G1 H1 ((match tgt t ds[i] (env.wipe own) with
      | none => M.no
      | some env1 => M.bind (M.calm (evB C .And cs env1)) fun b => match b with
        | .bl true => M.bind (M.calm (ev C elt env1)) fun x => if sizeOk (acc.length + 1) then compL (fun d => tgt t d (env.wipe own)) (fun e => evB C .And cs e) (fun e => ev C elt e) (ds.drop (i + 1)) (acc ++ [x]) else M.no
        | .bl false => compL (fun d => tgt t d (env.wipe own)) (fun e => evB C .And cs e) (fun e => ev C elt e) (ds.drop (i + 1)) acc
        | _ => M.no) t') fun d s' => PostV Γ G1 H1 s' true d Q := by
      have e := List.drop_eq_getElem_cons hlt
      rw [e] at q
      exact q
    cases e1 : tgt t ds[i] (env.wipe own) with
    | none => rw [e1] at q; exact (show False from q).elim
    | some env1 =>
      rw [e1] at q
      refine .inr ⟨go, fun H' => (ds.length - (i + 1) = ds.length - (i + 1) ∧ i + 1 ≤ ds.length ∧ ∃ G t' acc xs, Grow G1 H1 G H' ∧ SOk Γ G H' t' ∧ ¬ G.Z D ∧ G.cup ≠ some D ∧ H' D = some (.lst xs) ∧ Rps Γ G H' xs acc ∧
        PostR Γ W σ G1 H1 (compL (fun d => tgt t d (env.wipe own)) (fun e => evB C .And cs e) (fun e => ev C elt e) (ds.drop (i + 1)) acc t') fun d s' => PostV Γ G1 H1 s' true d Q), fun H' n => ⟨ds.length - (i + 1), by omega, n⟩, fun x H' hy => ?_⟩
      obtain ⟨G2, g2, k2, rx⟩ := yl x H' hy
      have er2 : ER Γ G2 H' (env.wipe own) (L2.wipe σ own) := ((er.grow k1 (g.trans g2)).wipe own)
      refine ⟨env.wipe own, G2, t', ds[i], env1, er2, k2, rx, e1, fun σ2 er3 hw _ => ⟨?_, ?_⟩⟩
      · rw [hw own (fun _ h => h)]
        have ww : ∀ vs : List Nat, wipe (wipe σ own) vs = wipe (wipe σ own) vs := fun _ => rfl
        have idem : ∀ vs : List Nat, (∀ v ∈ vs, v ∈ own) → wipe (wipe σ own) vs = wipe σ own := by
          intro vs
          induction vs with
          | nil => intro _; rfl
          | cons v vs ih =>
            intro hv
            show (wipe (wipe σ own) vs).set v none = wipe σ own
            rw [ih (fun u hu => hv u (List.mem_cons_of_mem _ hu))]
            have inner : ∀ ws : List Nat, v ∈ ws → (wipe σ ws).set v none = wipe σ ws := by
              intro ws
              induction ws with
              | nil => intro h; cases h
              | cons u us ih2 =>
                intro h
                show ((wipe σ us).set u none).set v none = (wipe σ us).set u none
                by_cases hvu : v = u
                · subst hvu; rw [List.set_set]
                · rw [List.set_comm _ _ (fun z => hvu z.symm), ih2 ((List.mem_cons.mp h).resolve_left hvu)]
            exact inner own (hv v List.mem_cons_self)
        exact idem own fun _ h => h
      · -- the rest of the turn
        have keepD : ∀ {G3 : Gh} {H3 : Hp}, Grow G2 H' G3 H3 → H3 D = some (.lst xs) ∧ ¬ G3.Z D ∧ G3.cup ≠ some D := fun {G3 H3} g3 => by
          have g4 := g2.trans g3
          exact ⟨g4.keep D _ eD nc (fun _ z => nomatch z), fun z => (g4.nz D z).elim nz (fun e => by rw [eD] at e; cases e), fun z => (g4.ncup D z).elim nc (fun e => by rw [eD] at e; cases e)⟩
        have skip : ∀ {G3 : Gh} {H3 : Hp} {s3 : St2}, Grow G2 H' G3 H3 → SOk Γ G3 H3 s3 → PostR Γ W σ G1 H1 (compL (fun d => tgt t d (env.wipe own)) (fun e => evB C .And cs e) (fun e => ev C elt e) (ds.drop (i + 1)) acc s3) (fun d s' => PostV Γ G1 H1 s' true d Q) →
            ds.length - (i + 1) = ds.length - (i + 1) ∧ i + 1 ≤ ds.length ∧ ∃ G t' acc xs, Grow G1 H1 G H3 ∧ SOk Γ G H3 t' ∧ ¬ G.Z D ∧ G.cup ≠ some D ∧ H3 D = some (.lst xs) ∧ Rps Γ G H3 xs acc ∧
              PostR Γ W σ G1 H1 (compL (fun d => tgt t d (env.wipe own)) (fun e => evB C .And cs e) (fun e => ev C elt e) (ds.drop (i + 1)) acc t') fun d s' => PostV Γ G1 H1 s' true d Q := fun {G3 H3 s3} g3 k3 q3 => by
          obtain ⟨d1, d2, d3⟩ := keepD g3
          exact ⟨rfl, hlt, G3, s3, acc, xs, (g.trans g2).trans g3, k3, d2, d3, d1, (r.grow k g2).grow k2 g3, q3⟩
        have take : ∀ {G3 : Gh} {H3 : Hp} {s3 : St2}, Grow G2 H' G3 H3 → SOk Γ G3 H3 s3 → PostR Γ W σ G1 H1 (M.bind (M.calm (ev C elt env1)) (fun x => if sizeOk (acc.length + 1) then compL (fun d => tgt t d (env.wipe own)) (fun e => evB C .And cs e) (fun e => ev C elt e) (ds.drop (i + 1)) (acc ++ [x]) else M.no) s3) (fun d s' => PostV Γ G1 H1 s' true d Q) →
            rd Γ noW fr (ev C elt) σ2 H3 fun y H4 => ∃ acc, H4 D = some (HO.lst acc) ∧ acc.length < sizeLine ∧ (fun H' => ds.length - (i + 1) = ds.length - (i + 1) ∧ i + 1 ≤ ds.length ∧ ∃ G t' acc xs, Grow G1 H1 G H' ∧ SOk Γ G H' t' ∧ ¬ G.Z D ∧ G.cup ≠ some D ∧ H' D = some (.lst xs) ∧ Rps Γ G H' xs acc ∧
              PostR Γ W σ G1 H1 (compL (fun d => tgt t d (env.wipe own)) (fun e => evB C .And cs e) (fun e => ev C elt e) (ds.drop (i + 1)) acc t') fun d s' => PostV Γ G1 H1 s' true d Q) (upd H4 D (HO.lst (acc ++ [y]))) := fun {G3 H3 s3} g3 k3 q3 => by
          refine ⟨env1, G3, s3, er3.grow k2 g3, k3, Post.weak (PostR.calm_to q3 fun x s4 _ q4 => ?_) fr⟩
          show ∀ v G4 H4, Grow G3 H3 G4 H4 → SOk Γ G4 H4 s4 → Rp Γ G4 H4 v x → _
          intro v G4 H4 g4 k4 rv
          obtain ⟨d1, d2, d3⟩ := keepD (g3.trans g4)
          by_cases hz : sizeOk (acc.length + 1) = true
          · rw [if_pos hz] at q4
            have r4 := ((r.grow k g2).grow k2 g3).grow k3 g4
            refine ⟨xs, d1, by have := sizeOk_of hz; rw [r4.length]; omega, rfl, hlt, G4, s4, acc ++ [x], xs ++ [v], (((g.trans g2).trans g3).trans g4).mut _ hD, k4.mut d1 d2 d3, d2, d3, upd_same, ?_, q4⟩
            exact (Rps.mut d1 d2 r4).append (.cons (Rp.mut d1 d2 rv) .nil)
          · rw [if_neg hz] at q4; exact (show False from q4).elim
        cases cs with
        | nil =>
          have q : PostR Γ W σ G1 H1 (M.bind (M.calm (ev C elt env1)) (fun x => if sizeOk (acc.length + 1) then compL (fun d => tgt t d (env.wipe own)) (fun e => evB C .And .nil e) (fun e => ev C elt e) (ds.drop (i + 1)) (acc ++ [x]) else M.no) t') (fun d s' => PostV Γ G1 H1 s' true d Q) := q
          exact tOf_nil (if_t (take (.refl _ _) k2 q))
        | cons c cs =>
          cases cs with
          | cons _ _ => cases hcs
          | nil =>
            refine ⟨env1, G2, t', er3, k2, PostR.calm_to q fun a s3 _ q3 => ?_⟩
            cases a with
            | bl b =>
              refine ⟨b, rfl, fun G3 H3 g3 k3 => ?_⟩
              cases b with
              | true =>
                rw [if_pos rfl]
                exact take g3 k3 q3
              | false =>
                rw [if_neg (by decide)]
                exact skip g3 k3 q3
            | _ => exact (show False from q3).elim
  · have e : i = ds.length := by omega
    subst e
    have q : PostV Γ G1 H1 t' true (.lst acc) Q := by
      rw [List.drop_length] at q
      exact q
    refine .inl ⟨ys (Nat.le_refl _), ?_⟩
    have q' : ∀ p xs G' H', Grow G1 H1 G' H' → SOk Γ G' H' t' → H1 p = none → H' p = some (.lst xs) → ¬ G'.Z p → G'.cup ≠ some p → Rps Γ G' H' xs acc → Q (.ref p) H' := q
    exact q' D xs G H g k hD eD nz nc r
section
variable {Γ : Mo} {N GN : List Str} {K : Nat → GK} {C : Cl} {W : WX} {s : Sc} {X : Cx}
variable {p : Pos}
theorem Cxt.blk (c : Cxt Γ N GN K C W s X) {lsc : Scope} {vis gls : List Nat} (hv : visB N (relS lsc s.sc) vis = true) (hg : glsB GN (relS lsc s.sc) gls = true) (s0 : Shared) (H : Hp) (L : Addr) (cl : List (Str × Addr)) (fp : List Addr) :
    Cxt Γ N GN K C noW { sc := relS lsc s.sc, vis := vis, gls := gls, cold := s.cold, calls := s.calls, act := false, lam := s.lam } (blkM X s0 H lsc (compEnvC lsc cl L X.env) fp) where
  hK := c.hK
  md := c.md.blk _ _ _ _ _
  cold := c.cold
  hu := c.hu
  hN := c.hN
  nd := c.nd
  tk := fun u s' ⟨_, _, _, _, _, _, _, _, _, _, _, _, _, _, _, _, w⟩ => w
  sc := by rw [← c.sc]; rfl
  gf := c.gf
  isi := fun Y h => c.isi Y ⟨h.prog, h.w, h.K, h.mg, h.base, h.A, h.calm, h.pn⟩
  fns := c.fns
  vis := visB_ok hv
  gls := glsB_ok hg
  act := fun h => nomatch h
  lam := fun h Y W' s' hY => c.lam h Y W' s' ((show Sib X (blkM X s0 H lsc (compEnvC lsc cl L X.env) fp) from ⟨rfl, rfl, rfl, rfl, rfl, rfl, rfl, rfl, rfl, rfl⟩).trans hY)
theorem mX_blk (c : Md X) (s0 : Shared) (H : Hp) (lsc : Scope) (cenv : Env) (fp : List Addr) : mX X (blkM X s0 H lsc cenv fp) := ⟨c.blk _ _ _ _ _, fun h => h⟩
theorem ownP_snd (N : List Str) (own : List Nat) : (ownP N own).map (·.2) = own := by
  unfold ownP
  rw [List.map_map]
  have : ((fun x => x.2) ∘ fun i => (nm N i, i) : Nat → Nat) = id := rfl
  rw [this, List.map_id]
theorem fold_backI (it : I) (env : Env) (v : Value) : foldedSetIterable (backI N GN it) env v = pure v := by
  cases it with
  | seq e => exact (pl_back N GN e).fo env v
  | _ => rfl
theorem i_lc (c : Cxt Γ N GN K C W s X) {elt : E} {t : T} {it : I} {cs : Es} {lsc : Scope} {own vis gls : List Nat} {fr : Bool} {σ : L2.St} {H : Hp} {Q : VK} (hcs : (match cs with | .nil => true | .cons _ .nil => true | _ => false) = true) (ht : t.ok own = true)
    (h : rd Γ W true (ev C (.lc elt t it cs lsc own vis gls p)) σ H Q) : tLc (rdI Γ W (evI C it)) (gT Γ own t) (tOf Γ C cs) (rd Γ noW fr (ev C elt)) ((ownP N own).map (·.2)) σ H Q := by
  rw [ownP_snd]
  obtain ⟨env, G, u, er, k, q⟩ := h
  refine ⟨env, G, u, er, k, PostR.bind (show PostR Γ W σ G H (M.bind (evI C it env) (fun l => compL (fun d => tgt t d (env.wipe own)) (fun e => evB C .And cs e) (fun e => ev C elt e) l []) u) (fun d s' => PostV Γ G H s' true d Q) from q) fun ds s1 _ q1 J G1 H1 g1 k1 y D hD => ?_⟩
  exact compW hcs k1 (er.grow k g1) y (Post.mono g1 q1) ht D hD
theorem pts_tOf {Y : Cx} : ∀ (cs : Es), (match cs with | .nil => true | .cons _ .nil => true | _ => false) = true → (∀ e, cs = .cons e .nil → PT Y (back N GN e) (rdT Γ noW (ev C e))) → PTs Y (backs N GN cs) (tOf Γ C cs)
  | .nil, _, _ => pts_nil
  | .cons e .nil, _, h => pts_one (h e rfl)
  | .cons _ (.cons _ _), h, _ => by cases h
structure LcOk (N GN : List Str) (s : Sc) (t : T) (cs : Es) (lsc : Scope) (own vis gls : List Nat) : Prop where
  blk : blkC N s.sc lsc (ownP N own) = true
  vis : visB N (relS lsc s.sc) vis = true
  gls : glsB GN (relS lsc s.sc) gls = true
  tg : t.ok own = true
  sto : stoB N (relS lsc s.sc) lsc own = true
  cs : (match cs with | .nil => true | .cons _ .nil => true | _ => false) = true
theorem e_lc (c : Cxt Γ N GN K C W s X) {elt : E} {t : T} {it : I} {cs : Es} {lsc : Scope} {own vis gls : List Nat} {fr : Bool} (ok : LcOk N GN s t cs lsc own vis gls)
    (hi : PIM X (mX X) (backT N GN t) (backI N GN it) (rdI Γ W (evI C it)))
    (he : ∀ Y, Cxt Γ N GN K C noW { sc := relS lsc s.sc, vis := vis, gls := gls, cold := s.cold, calls := s.calls, act := false, lam := s.lam } Y → PE Y (back N GN elt) (rd Γ noW fr (ev C elt)))
    (hc : ∀ Y, Cxt Γ N GN K C noW { sc := relS lsc s.sc, vis := vis, gls := gls, cold := s.cold, calls := s.calls, act := false, lam := s.lam } Y → ∀ e, cs = .cons e .nil → PT Y (back N GN e) (rdT Γ noW (ev C e))) :
    PE X (back N GN (.lc elt t it cs lsc own vis gls p)) (rd Γ W true (ev C (.lc elt t it cs lsc own vis gls p))) := by
  refine PE.imp (pe_lcM (m := mX X) (g := gT Γ own t) (tt := tOf Γ C cs) (te := rd Γ noW fr (ev C elt)) (fun s0 H ce fp => mX_blk c.md s0 H lsc ce fp) (by rw [c.hN]; exact c.nd) hi (by rw [c.hN, c.sc]; exact blkOk_by ok.blk) (fun s0 H L cl fp => ?_) (fun s0 H L cl fp => ?_) (fun s0 H L cl fp => he _ (c.blk ok.vis ok.gls s0 H L cl fp)) (fun x => fold_backI it X.env x)) fun σ H Q h => i_lc c ok.cs ok.tg h
  · have cb := c.blk ok.vis ok.gls s0 H L cl fp
    exact g_T N GN cb.hK (stoB_ok cb.hN cb.nd cb.md cb.sc (fun x h => by show (lsc.names.lookup x == some .cell) = true; rw [h]; rfl) ok.sto) cb.hN t ok.tg
  · exact pts_tOf cs ok.cs (hc _ (c.blk ok.vis ok.gls s0 H L cl fp))
end
end Co
set_option Elab.async false
set_option linter.all false
set_option maxRecDepth 100000
set_option maxHeartbeats 4000000
namespace Co
open PySem PySem.Spec PyProof.Rows L2 HotX L2H
def Gh.cut (G : Gh) (p : Addr) : Gh := { G with Z := fun a => G.Z a ∧ a ≠ p }
section
variable {Γ : Mo} {G G1 : Gh} {H H1 : Hp} {s s1 : St2} {p : Addr} {xs : List V}
theorem Grow.cut (k : SOk Γ G H s) (e : H p = some (.lst xs)) (nz : ¬ G.Z p) (nc : G.cup ≠ some p) (g : Grow (G.add p) H G1 H1) : Grow G H (G1.cut p) H1 where
  z := fun a h => ⟨g.z a (.inl h), fun z => nz (by rw [← z]; exact h)⟩
  nz := fun a h => (g.nz a h.1).elim (fun z => z.elim .inl fun z => absurd z h.2) .inr
  cup := g.cup
  ncup := g.ncup
  keep := g.keep
  there := g.there
theorem SOk.cut (k : SOk Γ G H s) (e : H p = some (.lst xs)) (nz : ¬ G.Z p) (nc : G.cup ≠ some p) (g : Grow (G.add p) H G1 H1) (k1 : SOk Γ G1 H1 s1) : SOk Γ (G1.cut p) H1 s1 where
  cup := by
    cases s1 with
    | none => exact k1.cup
    | some q =>
      obtain ⟨x, y⟩ := q
      obtain ⟨a, e1, e2, n⟩ := k1.cup
      exact ⟨a, e1, e2, fun z => n z.1⟩
  tabs := k1.tabs
  thk := k1.thk
  scr := fun a ns h => by
    rcases k.scr a ns h with ⟨o, h2⟩ | ⟨z, h2⟩ | h2
    · exact .inl ⟨o, g.keep a _ h2 (fun q => k.nc h2 (fun _ z => nomatch z) q) (fun _ z => nomatch z)⟩
    · exact .inr (.inl ⟨⟨g.z a (.inl z), fun e => nz (by rw [← e]; exact z)⟩, g.keep a _ h2 (fun q => k.nz q z) (fun _ z => nomatch z)⟩)
    · exact .inr (.inr h2)
  zl := fun a z => k1.zl a z.1
  held := fun q hq => (k.held q hq).growZ ((g.cut k e nz nc).toZ k)
end
section
variable {Γ : Mo} {N GN : List Str} {K : Nat → GK} {C : Cl} {W : WX} {s : Sc} {X : Cx}
variable {ea eb ec : E} {p : Pos} {fa fb fc : Bool}
theorem post_cut {σ : L2.St} {G : Gh} {H : Hp} {t : St2} {q : Addr} {xs : List V} (k : SOk Γ G H t) (e : H q = some (.lst xs)) (nz : ¬ G.Z q) (nc : G.cup ≠ some q) (fr : Bool) {m : M D} {u : St2} {Q : VK}
    (h : Post Γ W σ G H fr ((if fr then flatL else flatM) m u) Q) : Post Γ W σ (G.add q) H fr (m u) Q := by
  have h : PostR Γ W σ G H (M.bind m (if fr then flatK else flatJ) u) (fun d s' => PostV Γ G H s' fr d Q) := by cases fr <;> exact h
  unfold M.bind at h
  cases e1 : m u with
  | none => rw [e1] at h; exact h
  | some z =>
    obtain ⟨r, s'⟩ := z
    rw [e1] at h
    cases r with
    | ex g n => exact fun cls da G' H' g' k' x => h cls da (G'.cut q) H' (g'.cut k e nz nc) (k.cut e nz nc g' k') x
    | ok d =>
      have flat : d.flat = true → PostV Γ G H s' fr d Q → PostV Γ (G.add q) H s' fr d Q := fun hf h2 => by
        have nl : ∀ ds, d ≠ .lst ds := fun ds z => by rw [z] at hf; simp [D.flat] at hf
        have h3 : ∀ v G' H', Grow G H G' H' → SOk Γ G' H' s' → Rp Γ G' H' v d → Q v H' := by
          cases fr with
          | false => exact h2
          | true => exact postN h2 nl
        have h4 : PostV Γ (G.add q) H s' false d Q := fun v G' H' g' k' r => h3 v (G'.cut q) H' (g'.cut k e nz nc) (k.cut e nz nc g' k') (Rp.other (G := G') (G' := G'.cut q) (fun _ z => z) hf r)
        cases fr with
        | false => exact h4
        | true => exact h4.weak
      show PostV Γ (G.add q) H s' fr d Q
      have h : PostR Γ W σ G H ((if fr then flatK else flatJ) d s') (fun d s' => PostV Γ G H s' fr d Q) := h
      by_cases hl : fr = true ∧ ∃ l, d = .lst l
      · obtain ⟨rfl, l, rfl⟩ := hl
        have h : PostR Γ W σ G H ((if D.flats l then M.pure (.lst l) else M.no) s') (fun d s' => PostV Γ G H s' true d Q) := h
        by_cases hf : D.flats l = true
        · rw [if_pos hf] at h
          have h : ∀ p xs G' H', Grow G H G' H' → SOk Γ G' H' s' → H p = none → H' p = some (.lst xs) → ¬ G'.Z p → G'.cup ≠ some p → Rps Γ G' H' xs l → Q (.ref p) H' := h
          show ∀ p xs G' H', Grow (G.add q) H G' H' → SOk Γ G' H' s' → H p = none → H' p = some (.lst xs) → ¬ G'.Z p → G'.cup ≠ some p → Rps Γ G' H' xs l → Q (.ref p) H'
          exact fun p ys G' H' g' k' a b z nc' r => h p ys (G'.cut q) H' (g'.cut k e nz nc) (k.cut e nz nc g' k') a b (fun w => z w.1) nc' (Rps.other (G := G') (G' := G'.cut q) (fun _ z => z) hf r)
        · rw [if_neg hf] at h; exact (show False from h).elim
      · have e2 : (if fr then flatK else flatJ) d = flatJ d := by
          cases fr with
          | false => rfl
          | true =>
            cases d with
            | lst l => exact absurd ⟨rfl, l, rfl⟩ hl
            | _ => rfl
        rw [e2] at h
        unfold flatJ at h
        by_cases hf : d.flat = true
        · rw [if_pos hf] at h; exact flat hf h
        · rw [if_neg hf] at h; exact (show False from h).elim
theorem i_bor {i : Nat} {σ : L2.St} {H : Hp} {Q : VK} (h : rd Γ W ea.isO (ev C (.bor i ea)) σ H Q) : rd Γ W ea.isO (ev C ea) σ H Q := by
  obtain ⟨env, G, t, er, k, q⟩ := h
  have q : Post Γ W σ G H ea.isO ((match env.own i with | some l => (if ea.isO then flatL else flatM) (ev C ea (env.set i (.val (.lst l)))) | none => M.no) t) Q := q
  cases e : env.own i with
  | none => rw [e] at q; exact (show False from q).elim
  | some l =>
    rw [e] at q
    obtain ⟨p, xs, e1, e2, nz, nc, r, e3⟩ := er.own e
    exact ⟨env.set i (.val (.lst l)), G.add p, t, er.freeze e3 e1 e2 r, k.add nc e2, post_cut k e2 nz nc ea.isO q⟩
theorem e_bor {i : Nat} (ha : PE X (back N GN ea) (rd Γ W ea.isO (ev C ea))) : PE X (back N GN (.bor i ea)) (rd Γ W ea.isO (ev C (.bor i ea))) := PE.imp ha fun σ H Q q => i_bor q
theorem t_bor {i : Nat} (ha : PT X (back N GN ea) (rdT Γ W (ev C ea))) : PT X (back N GN (.bor i ea)) (rdT Γ W (ev C (.bor i ea))) := by
  refine PT.imp ha fun σ H Q h => ?_
  obtain ⟨env, G, t, er, k, q⟩ := h
  have q : PostR Γ W σ G H ((match env.own i with | some l => (if ea.isO then flatL else flatM) (ev C ea (env.set i (.val (.lst l)))) | none => M.no) t) (fun d s' => ∃ b, d = .bl b ∧ ∀ G' H', Grow G H G' H' → SOk Γ G' H' s' → Q b H') := q
  cases e : env.own i with
  | none => rw [e] at q; exact (show False from q).elim
  | some l =>
    rw [e] at q
    obtain ⟨p, xs, e1, e2, nz, nc, r, e3⟩ := er.own e
    refine ⟨env.set i (.val (.lst l)), G.add p, t, er.freeze e3 e1 e2 r, k.add nc e2, ?_⟩
    have q : PostR Γ W σ G H (M.bind (ev C ea (env.set i (.val (.lst l)))) (if ea.isO then flatK else flatJ) t) (fun d s' => ∃ b, d = .bl b ∧ ∀ G' H', Grow G H G' H' → SOk Γ G' H' s' → Q b H') := by
      revert q
      cases ea.isO <;> exact id
    unfold M.bind at q
    cases e4 : ev C ea (env.set i (.val (.lst l))) t with
    | none => rw [e4] at q; exact q
    | some z =>
      obtain ⟨r, s'⟩ := z
      rw [e4] at q
      cases r with
      | ex g n => exact fun cls da G' H' g' k' x => q cls da (G'.cut p) H' (g'.cut k e2 nz nc) (k.cut e2 nz nc g' k') x
      | ok d =>
        have q : PostR Γ W σ G H ((if ea.isO then flatK else flatJ) d s') (fun d s' => ∃ b, d = .bl b ∧ ∀ G' H', Grow G H G' H' → SOk Γ G' H' s' → Q b H') := q
        have same : (if ea.isO then flatK else flatJ) d s' = some (.ok d, s') ∨ (if ea.isO then flatK else flatJ) d s' = none := by
          cases ea.isO with
          | false =>
            show flatJ d s' = _ ∨ flatJ d s' = _
            unfold flatJ
            by_cases hf : d.flat = true
            · rw [if_pos hf]; exact .inl rfl
            · rw [if_neg hf]; exact .inr rfl
          | true =>
            show flatK d s' = _ ∨ flatK d s' = _
            have kk : ∀ d : D, flatK d s' = some (.ok d, s') ∨ flatK d s' = none := by
              intro d
              unfold flatK
              split
              · rename_i l'
                by_cases hf : D.flats l' = true
                · rw [if_pos hf]; exact .inl rfl
                · rw [if_neg hf]; exact .inr rfl
              · by_cases hf : d.flat = true
                · rw [if_pos hf]; exact .inl rfl
                · rw [if_neg hf]; exact .inr rfl
            exact kk d
        rcases same with z | z
        · rw [z] at q
          obtain ⟨b, e5, q5⟩ := (show ∃ b, d = D.bl b ∧ ∀ G' H', Grow G H G' H' → SOk Γ G' H' s' → Q b H' from q)
          exact ⟨b, e5, fun G' H' g' k' => q5 (G'.cut p) H' (g'.cut k e2 nz nc) (k.cut e2 nz nc g' k')⟩
        · rw [z] at q; exact (show False from q).elim
theorem e_ncup (ha : PE X (back N GN ea) (rd Γ W fa (ev C ea))) (hb : PE X (back N GN eb) (rd Γ W fb (ev C eb))) : PE X (back N GN (.ncup ea eb p)) (rd Γ W false (ev C (.ncup ea eb p))) := by
  refine PE.imp (pe_lst (pa_cons ha (pa_cons hb pa_nil ((pl_back N GN eb).st _ _)) ((pl_back N GN ea).st _ _))) fun σ H Q ⟨env, G, t, er, k, q⟩ =>
    rd.go er k (show PostR Γ W σ G H (M.bind (ev C ea env) (fun x => M.bind (ev C eb env) fun y => match x, y with
    | .int i, .int j => (fun s => match s with
      | none => some (.ok .cup, some (i, j))
      | some _ => none : M D)
    | _, _ => M.no) t) (fun d s' => PostV Γ G H s' false d Q) from q) fun x s1 v G1 H1 g1 k1 r1 er1 q1 =>
    rd.go er1 k1 (Post.mono g1 q1) fun y s2 u G2 H2 g2 k2 r2 er2 q2 => ?_
  have q2 := Post.mono g2 q2
  cases r1 with
  | int i =>
    cases r2 with
    | int j =>
      cases s2 with
      | some _ => exact (show False from q2).elim
      | none =>
        have q2 : PostV Γ G2 H2 (some (i, j)) false .cup Q := q2
        refine ⟨by show 2 ≤ sizeLine; rw [sizeLine_eq]; omega, fun l hl => ?_⟩
        have g : Grow G2 H2 { G2 with cup := some l } (upd H2 l (.lst [.int i, .int j])) := by
          have g0 := Grow.upd G2 (.lst [.int i, .int j]) hl
          refine ⟨g0.z, g0.nz, fun a z => ?_, fun a z => ?_, g0.keep, g0.there⟩
          · have e : G2.cup = none := k2.cup
            rw [e] at z; cases z
          · cases z; exact .inr hl
        have k0 := k2.upd (.lst [.int i, .int j]) hl
        have k3 : SOk Γ { G2 with cup := some l } (upd H2 l (.lst [.int i, .int j])) (some (i, j)) :=
          ⟨⟨l, rfl, upd_same, fun z => k2.zin l z hl⟩, k0.tabs, k0.thk, fun a ns h => (k0.scr a ns h).to (fun _ z => z) (fun _ z _ => z), k0.zl, fun q hq => (k2.held q hq).growZ (g.toZ k2)⟩
        exact (show ∀ v G' H', Grow G2 H2 G' H' → SOk Γ G' H' (some (i, j)) → Rp Γ G' H' v .cup → Q v H' from q2) (.ref l) _ _ g k3 (.cup rfl)
    | _ => exact (show False from q2).elim
  | _ => exact (show False from q2).elim
end
end Co
set_option Elab.async false
set_option linter.all false
set_option maxRecDepth 100000
set_option maxHeartbeats 4000000
namespace Co
open PySem PySem.Spec PyProof.Rows L2 HotX L2H
section
variable {Γ : Mo} {N GN : List Str} {K : Nat → GK} {C : Cl} {W : WX} {s : Sc} {X : Cx}
variable {ea eb ec : E} {p : Pos} {fa fb fc : Bool}
theorem dic_at {G1 : Gh} {H1 : Hp} {env : En} {σ : L2.St} {i : Nat} {kvs : List (List L2.Key × D)} {a : Addr} (e : env.dic i = some kvs) (f : σ[i]? = some (some (.ref a))) (er : ER Γ G1 H1 env σ) : ∃ xs, H1 a = some (.dT xs) ∧ Rks Γ G1 H1 xs kvs ∧ (kvs.map (·.1)).Nodup := by
  obtain ⟨a', xs, f1, f2, f3, f4, _⟩ := er.dic e
  rw [f] at f1
  cases f1
  exact ⟨xs, f2, f3, f4⟩
theorem e_dget (c : Cxt Γ N GN K C W s X) {i : Nat} {es : Es} {k : Nat} {tp ip : Pos} (hi : s.vis.contains i = true) (ha : PA X (backs N GN es) (rdA Γ W (evs C es))) :
    PE X (back N GN (.dget i es k tp ip p)) (rd Γ W false (ev C (.dget i es k tp ip p))) := by
  obtain ⟨h1, h2, h3, h4⟩ := c.var hi
  have hu := c.hu
  refine PE.imp (pe_dget (by omega) (pe_var (pos := ip) h1 h2 h3 h4) (pe_tup (x1 := k) (pos := tp) ha) (fun _ _ => rfl)) fun σ H Q ⟨env, G, t, er, kk, q⟩ => ?_
  have q : PostR Γ W σ G H ((match env.dic i with
    | some kvs => M.bind (evs C es env) fun l => match D.keyOf l with
      | some k => if sizeOk l.length then M.of (dVal kvs k) else M.no
      | none => M.no
    | none => M.no) t) (fun d s' => PostV Γ G H s' false d Q) := q
  cases e : env.dic i with
  | none => rw [e] at q; exact (show False from q).elim
  | some kvs =>
    rw [e] at q
    obtain ⟨a, xs, f1, f2, f3, f4, f5⟩ := er.dic e
    refine ⟨.ref a, f1, ?_⟩
    refine rdA.go er kk q fun ds s1 vs G1 H1 g1 k1 r1 er1 q1 => ?_
    cases e2 : D.keyOf ds with
    | none => rw [e2] at q1; exact (show False from q1).elim
    | some key =>
      rw [e2] at q1
      by_cases hs : sizeOk ds.length = true
      · have q1 : PostR Γ W σ G H ((if sizeOk ds.length = true then M.of (dVal kvs key) else M.no) s1) (fun d s' => PostV Γ G H s' false d Q) := q1
        rw [if_pos hs] at q1
        obtain ⟨d, e3, q2⟩ := PostR.of q1
        obtain ⟨xs1, m1, m2, m3⟩ := dic_at e f1 er1
        refine ⟨by rw [r1.length]; exact sizeOk_of hs, fun pt hp => ?_⟩
        obtain ⟨v, e4, rv⟩ := (m2.val key).2 d e3
        have n1 : a ≠ pt := fun z => by rw [z, hp] at m1; cases m1
        refine ⟨a, v, rfl, ?_, pvF (PostV.mono (g1.trans (.upd G1 _ hp)) q2) (k1.upd _ hp) (rv.grow k1 (.upd G1 _ hp))⟩
        rw [← e4]
        exact DGet.t (by rw [upd_ne n1]; exact m1) (by rw [upd_same, keyOf_kv r1 e2])
      · have q1 : PostR Γ W σ G H ((if sizeOk ds.length = true then M.of (dVal kvs key) else M.no) s1) (fun d s' => PostV Γ G H s' false d Q) := q1
        rw [if_neg hs] at q1; exact (show False from q1).elim
theorem e_dgt (c : Cxt Γ N GN K C W s X) {i : Nat} {es : Es} {k : Nat} {tp ip ap : Pos} (hi : s.vis.contains i = true) (hl : (ap.endLine == p.line) = true) (ha : PA X (backs N GN es) (rdA Γ W (evs C es))) (hb : PE X (back N GN ea) (rd Γ W fa (ev C ea))) :
    PE X (back N GN (.dgt i es k tp ea ip ap p)) (rd Γ W false (ev C (.dgt i es k tp ea ip ap p))) := by
  obtain ⟨h1, h2, h3, h4⟩ := c.var hi
  have hu := c.hu
  have hs : starEach [.Tuple (backs N GN es) k tp, back N GN ea] X.env = [(false, eval (.Tuple (backs N GN es) k tp) X.env), (false, eval (back N GN ea) X.env)] := by
    show (false, eval (.Tuple (backs N GN es) k tp) X.env) :: starEach [back N GN ea] X.env = _
    rw [(pl_back N GN ea).st [] X.env]
    rfl
  have m : M2 X (.Name (nm N i) ip) (Str.ofString "get") ap (.Tuple (backs N GN es) k tp) (back N GN ea) p := ⟨rfl, by rw [hs]; rfl, hl, by rw [hs]; rfl⟩
  refine PE.imp (pe_dget2 (by omega) (pe_var (pos := ip) h1 h2 h3 h4) (pe_tup (x1 := k) (pos := tp) ha) hb m) fun σ H Q ⟨env, G, t, er, kk, q⟩ => ?_
  have q : PostR Γ W σ G H ((match env.dic i with
    | some kvs => M.bind (evs C es env) fun l => match D.keyOf l with
      | some k => if sizeOk l.length then M.bind (ev C ea env) fun x => M.pure ((dVal kvs k).getD x) else M.no
      | none => M.no
    | none => M.no) t) (fun d s' => PostV Γ G H s' false d Q) := q
  cases e : env.dic i with
  | none => rw [e] at q; exact (show False from q).elim
  | some kvs =>
    rw [e] at q
    obtain ⟨a, xs, f1, f2, f3, f4, f5⟩ := er.dic e
    refine ⟨.ref a, f1, a, rfl, .inr ⟨xs, .inl f2⟩, ?_⟩
    refine rdA.go er kk q fun ds s1 vs G1 H1 g1 k1 r1 er1 q1 => ?_
    cases e2 : D.keyOf ds with
    | none => rw [e2] at q1; exact (show False from q1).elim
    | some key =>
      rw [e2] at q1
      by_cases hs : sizeOk ds.length = true
      · have q1 : PostR Γ W σ G H ((if sizeOk ds.length = true then M.bind (ev C ea env) (fun x => M.pure ((dVal kvs key).getD x)) else M.no) s1) (fun d s' => PostV Γ G H s' false d Q) := q1
        rw [if_pos hs] at q1
        refine ⟨by rw [r1.length]; exact sizeOk_of hs, fun pt hp => ?_⟩
        have g2 := Grow.upd G1 (.tup vs) hp
        have k2 := k1.upd (.tup vs) hp
        refine rd.go (er1.grow k1 g2) k2 (PostR.mono (g1.trans g2) (fun _ _ h => h.mono (g1.trans g2)) q1) fun x s2 u G3 H3 g3 k3 r3 er3 q3 => ?_
        obtain ⟨xs1, m1, m2, m3⟩ := dic_at e f1 er3
        have hpt : H3 pt = some (.tup vs) := g3.keep pt _ upd_same (k2.nc upd_same fun _ z => nomatch z) (fun _ z => nomatch z)
        have q3 : PostV Γ (G1) (upd H1 pt (.tup vs)) s2 false ((dVal kvs key).getD x) Q := q3
        refine ⟨L2.valV xs1 key, DGet.t m1 (by rw [hpt, keyOf_kv r1 e2]), ?_⟩
        refine pvF (PostV.mono g3 q3) k3 ?_
        cases e3 : dVal kvs key with
        | none => rw [(m2.val key).1 e3]; exact r3
        | some d =>
          obtain ⟨v, e4, rv⟩ := (m2.val key).2 d e3
          rw [e4]
          exact rv
      · have q1 : PostR Γ W σ G H ((if sizeOk ds.length = true then M.bind (ev C ea env) (fun x => M.pure ((dVal kvs key).getD x)) else M.no) s1) (fun d s' => PostV Γ G H s' false d Q) := q1
        rw [if_neg hs] at q1; exact (show False from q1).elim
end
end Co
set_option Elab.async false
set_option linter.all false
set_option maxRecDepth 100000
set_option maxHeartbeats 4000000
namespace Co
open PySem PySem.Spec PyProof.Rows L2 HotX L2H
section
variable {Γ : Mo} {N GN : List Str} {K : Nat → GK} {C : Cl}
theorem and2 {a b : Bool} (h : (a && b) = true) : a = true ∧ b = true := Bool.and_eq_true_iff.mp h
mutual
theorem s_E : ∀ (e : E) (W : WX) (s : Sc) (X : Cx), Cxt Γ N GN K C W s X → okE N GN K s e = true → PE X (back N GN e) (rd Γ W e.isO (ev C e))
  | .v i p, W, s, X, c, h => e_v c h
  | .int n k p, W, s, X, c, h => e_c pe_int (fun _ => rfl) (fun _ _ _ _ => .int n)
  | .bl b k p, W, s, X, c, h => e_c pe_bl (fun _ => rfl) (fun _ _ _ _ => .bl b)
  | .non k p, W, s, X, c, h => e_c pe_non (fun _ => rfl) (fun _ _ _ _ => .non)
  | .str x k p, W, s, X, c, h => e_c pe_str (fun _ => rfl) (fun _ _ _ _ => .str x)
  | .gl g d p, W, s, X, c, h => e_gl c h
  | .bin o a b p, W, s, X, c, h => e_bin c (s_E a W s X c (and2 h).1) (s_E b W s X c (and2 h).2)
  | .neg a p, W, s, X, c, h => e_neg c (s_E a W s X c h)
  | .not a p, W, s, X, c, h => e_not (s_E a W s X c h)
  | .cmp o a b p, W, s, X, c, h => e_cmp c (s_E a W s X c (and2 h).1) (s_E b W s X c (and2 h).2)
  | .cmp2 o o2 a b d p, W, s, X, c, h => e_cmp2 c (s_E a W s X c (and3 h).1) (s_E b W s X c (and3 h).2.1) (s_E d W s X c (and3 h).2.2)
  | .bop o es p, W, s, X, c, h => s_B es W s X c (and2 h).1 (and2 h).2 o p
  | .ife d a b p, W, s, X, c, h => e_ife (s_T d W s X c (and3 h).1) (s_E a W s X c (and3 h).2.1) (s_E b W s X c (and3 h).2.2)
  | .tup es k p, W, s, X, c, h => e_tup (s_Es es W s X c h)
  | .lst es p, W, s, X, c, h => e_lst (s_Es es W s X c h)
  | .ix a i p, W, s, X, c, h => e_ix c (s_E a W s X c (and2 h).1) (s_E i W s X c (and2 h).2)
  | .sl a lo hi p2 p, W, s, X, c, h => e_sl c (s_E a W s X c (and3 h).1) (s_O lo W s X c (and3 h).2.1) (s_O hi W s X c (and3 h).2.2)
  | .rev a k p4 p3 p2 p, W, s, X, c, h => e_rev c (s_E a W s X c h)
  | .call g .nil gp p, W, s, X, c, h => e_call0 c (and3 h).1 (and3 h).2.1 (and2 (and3 h).2.2).1
  | .call g (.cons e es) gp p, W, s, X, c, h => e_call c (and3 h).1 (and3 h).2.1 (and2 (and3 h).2.2).1 (s_Es (.cons e es) W s X c (and2 (and2 (and3 h).2.2).2).2)
  | .callv i .nil gp p, W, s, X, c, h => by simp [okE] at h
  | .callv i (.cons e es) gp p, W, s, X, c, h => e_callv c (and3 h).1 (and3 h).2.1 (s_Es (.cons e es) W s X c (and2 (and3 h).2.2).2)
  | .act i gp p, W, s, X, c, h => e_act c (and2 h).1 (and2 h).2
  | .lam g ps body lsc vis gls gp lp p, W, s, X, c, h => c.lam (and2 h).1 X W s (.refl X) c.tk c.sc c.gls g ps body lsc vis gls gp lp p h
  | .blt f g .nil gp p, W, s, X, c, h => by simp [okE] at h
  | .blt f g (.cons e es) gp p, W, s, X, c, h => e_blt c (and3 h).1 (and3 h).2.1 (and2 (and3 h).2.2).1 (s_Es (.cons e es) W s X c (and2 (and2 (and3 h).2.2).2).2)
  | .isi g a t gp tp p, W, s, X, c, h => e_isi c (and3 h).1 (and3 h).2.1 (and3 (and3 h).2.2).1 (and3 (and3 h).2.2).2.1 (s_E a W s X c (and3 (and3 h).2.2).2.2)
  | .lc elt t it cs lsc own vis gls p, W, s, X, c, h => (by
    obtain ⟨h0, h1, h2⟩ := and3 h
    obtain ⟨h3, h4, h5⟩ := and3 h2
    obtain ⟨h6, h7, h8⟩ := and3 h5
    obtain ⟨h9, h10, h11⟩ := and3 h8
    have ih : ∀ e, cs = .cons e .nil → okE N GN K { sc := relS lsc s.sc, vis := vis, gls := gls, cold := s.cold, calls := s.calls, act := false, lam := s.lam } e = true := fun e q => by
      rw [q] at h10
      exact (and2 (and2 h10).2).1
    refine e_lc c ⟨h1, h3, h4, h6, h7, h11⟩ (s_I it t W s X c h0) (fun Y cY => s_E elt noW _ Y cY (and2 h10).1) ?_
    cases cs with
    | nil => intro Y cY e q; cases q
    | cons e0 rest =>
      cases rest with
      | nil =>
        intro Y cY e q
        cases q
        exact s_T e0 noW _ Y cY (ih e0 rfl)
      | cons e1 r => intro Y cY e q; cases q)
  | .bor i e, W, s, X, c, h => e_bor (s_E e W s X c (and2 h).2)
  | .ncup a b p, W, s, X, c, h => e_ncup (s_E a W s X c (and2 h).1) (s_E b W s X c (and2 h).2)
  | .join x k a xp ap p, W, s, X, c, h => e_join c (and2 h).2 (s_E a W s X c (and2 h).1)
  | .dget i es k tp ip p, W, s, X, c, h => e_dget c (and2 h).1 (s_Es es W s X c (and2 h).2)
  | .dgt i es k tp e ip ap p, W, s, X, c, h => e_dgt c (and3 h).1 (and2 (and3 h).2.2).2 (s_Es es W s X c (and3 h).2.1) (s_E e W s X c (and2 (and3 h).2.2).1)
theorem s_T : ∀ (e : E) (W : WX) (s : Sc) (X : Cx), Cxt Γ N GN K C W s X → okE N GN K s e = true → PT X (back N GN e) (rdT Γ W (ev C e))
  | .not a p, W, s, X, c, h => t_not (s_T a W s X c h)
  | .cmp o a b p, W, s, X, c, h => t_cmp c (s_E a W s X c (and2 h).1) (s_E b W s X c (and2 h).2)
  | .cmp2 o o2 a b d p, W, s, X, c, h => t_cmp2 c (s_E a W s X c (and3 h).1) (s_E b W s X c (and3 h).2.1) (s_E d W s X c (and3 h).2.2)
  | .bop o es p, W, s, X, c, h => PW.pt (s_W es W s X c (and2 h).1 (and2 h).2 o p)
  | .ife d a b p, W, s, X, c, h => t_ife (s_T d W s X c (and3 h).1) (s_T a W s X c (and3 h).2.1) (s_T b W s X c (and3 h).2.2)
  | .bor i e, W, s, X, c, h => t_bor (s_T e W s X c (and2 h).2)
  | .v i p, W, s, X, c, h => pt_plain (e_v c h) rfl
  | .int n k p, W, s, X, c, h => pt_plain (fr := false) (e_c pe_int (fun _ => rfl) (fun _ _ _ _ => .int n)) rfl
  | .bl b k p, W, s, X, c, h => pt_plain (fr := false) (e_c pe_bl (fun _ => rfl) (fun _ _ _ _ => .bl b)) rfl
  | .non k p, W, s, X, c, h => pt_plain (fr := false) (e_c pe_non (fun _ => rfl) (fun _ _ _ _ => .non)) rfl
  | .str x k p, W, s, X, c, h => pt_plain (fr := false) (e_c pe_str (fun _ => rfl) (fun _ _ _ _ => .str x)) rfl
  | .gl g d p, W, s, X, c, h => pt_plain (e_gl c h) rfl
  | .bin o a b p, W, s, X, c, h => pt_plain (s_E (.bin o a b p) W s X c h) rfl
  | .neg a p, W, s, X, c, h => pt_plain (s_E (.neg a p) W s X c h) rfl
  | .tup es k p, W, s, X, c, h => pt_plain (s_E (.tup es k p) W s X c h) rfl
  | .lst es p, W, s, X, c, h => pt_plain (s_E (.lst es p) W s X c h) rfl
  | .ix a i p, W, s, X, c, h => pt_plain (s_E (.ix a i p) W s X c h) rfl
  | .sl a lo hi p2 p, W, s, X, c, h => pt_plain (s_E (.sl a lo hi p2 p) W s X c h) rfl
  | .rev a k p4 p3 p2 p, W, s, X, c, h => pt_plain (s_E (.rev a k p4 p3 p2 p) W s X c h) rfl
  | .call g es gp p, W, s, X, c, h => pt_plain (s_E (.call g es gp p) W s X c h) rfl
  | .callv i es gp p, W, s, X, c, h => pt_plain (s_E (.callv i es gp p) W s X c h) rfl
  | .act i gp p, W, s, X, c, h => pt_plain (s_E (.act i gp p) W s X c h) rfl
  | .lam g ps body lsc vis gls gp lp p, W, s, X, c, h => pt_plain (s_E (.lam g ps body lsc vis gls gp lp p) W s X c h) rfl
  | .blt f g es gp p, W, s, X, c, h => pt_plain (s_E (.blt f g es gp p) W s X c h) rfl
  | .isi g a t gp tp p, W, s, X, c, h => pt_plain (s_E (.isi g a t gp tp p) W s X c h) rfl
  | .lc elt t it cs lsc own vis gls p, W, s, X, c, h => pt_plain (s_E (.lc elt t it cs lsc own vis gls p) W s X c h) rfl
  | .ncup a b p, W, s, X, c, h => pt_plain (s_E (.ncup a b p) W s X c h) rfl
  | .join x k a xp ap p, W, s, X, c, h => pt_plain (s_E (.join x k a xp ap p) W s X c h) rfl
  | .dget i es k tp ip p, W, s, X, c, h => pt_plain (s_E (.dget i es k tp ip p) W s X c h) rfl
  | .dgt i es k tp e ip ap p, W, s, X, c, h => pt_plain (s_E (.dgt i es k tp e ip ap p) W s X c h) rfl
theorem s_Es : ∀ (es : Es) (W : WX) (s : Sc) (X : Cx), Cxt Γ N GN K C W s X → okEs N GN K s es = true → PA X (backs N GN es) (rdA Γ W (evs C es))
  | .nil, W, s, X, c, h => a_nil
  | .cons e es, W, s, X, c, h => a_cons (s_E e W s X c (and2 h).1) (s_Es es W s X c (and2 h).2)
theorem s_B : ∀ (es : Es) (W : WX) (s : Sc) (X : Cx), Cxt Γ N GN K C W s X → (match es with | .nil => false | _ => true) = true → okEs N GN K s es = true → ∀ (o : BoolOp) (p : Pos), PE X (.BoolOp o (backs N GN es) p) (rd Γ W false (evB C o es))
  | .nil, W, s, X, c, h0, h, o, p => nomatch h0
  | .cons e .nil, W, s, X, c, h0, h, o, p => e_bop1 (s_E e W s X c (and2 h).1)
  | .cons e (.cons e2 es), W, s, X, c, h0, h, o, p => e_bop (s_E e W s X c (and2 h).1) (s_B (.cons e2 es) W s X c rfl (and2 h).2 o p)
theorem s_W : ∀ (es : Es) (W : WX) (s : Sc) (X : Cx), Cxt Γ N GN K C W s X → (match es with | .nil => false | _ => true) = true → okEs N GN K s es = true → ∀ (o : BoolOp) (p : Pos), PW X (.BoolOp o (backs N GN es) p) (rdT Γ W (evB C o es))
  | .nil, W, s, X, c, h0, h, o, p => nomatch h0
  | .cons e .nil, W, s, X, c, h0, h, o, p => w_bop1 (s_T e W s X c (and2 h).1)
  | .cons e (.cons e2 es), W, s, X, c, h0, h, o, p => w_bop (s_T e W s X c (and2 h).1) (s_W (.cons e2 es) W s X c rfl (and2 h).2 o p)
theorem s_O : ∀ (o : Oe) (W : WX) (s : Sc) (X : Cx), Cxt Γ N GN K C W s X → okO N GN K s o = true → PO X (backO N GN o) (rdO Γ W (evO C o))
  | .no, W, s, X, c, h => o_no
  | .so e, W, s, X, c, h => o_so (s_E e W s X c h)
theorem s_I : ∀ (it : I) (t : T) (W : WX) (s : Sc) (X : Cx), Cxt Γ N GN K C W s X → okI N GN K s t.isTp it = true → PIM X (mX X) (backT N GN t) (backI N GN it) (rdI Γ W (evI C it))
  | .seq e, t, W, s, X, c, h => i_seq c (s_E e W s X c h)
  | .rg1 g a gp p, t, W, s, X, c, h => i_rg1 c (and3 h).1 (and3 h).2.1 (and2 (and3 h).2.2).1 (s_E a W s X c (and2 (and3 h).2.2).2)
  | .rg2 g a b gp p, t, W, s, X, c, h => i_rg2 c (and3 h).1 (and3 h).2.1 (and3 (and3 h).2.2).1 (s_E a W s X c (and3 (and3 h).2.2).2.1) (s_E b W s X c (and3 (and3 h).2.2).2.2)
  | .rg3 g a b d gp p, t, W, s, X, c, h => i_rg3 c (and3 h).1 (and3 h).2.1 (and3 (and3 h).2.2).1 (s_E a W s X c (and3 (and3 h).2.2).2.1) (s_E b W s X c (and2 (and3 (and3 h).2.2).2.2).1) (s_E d W s X c (and2 (and3 (and3 h).2.2).2.2).2)
  | .en g a gp p, .nm i q, W, s, X, c, h => by simp [okI, T.isTp] at h
  | .en g a gp p, .tp ts k q, W, s, X, c, h => i_en c (and3 h).1 (and3 h).2.1 (and2 (and3 h).2.2).1 (s_E a W s X c (and2 (and3 h).2.2).2)
  | .zp g a b gp p, .nm i q, W, s, X, c, h => by simp [okI, T.isTp] at h
  | .zp g a b gp p, .tp ts k q, W, s, X, c, h => i_zp c (and3 h).1 (and3 h).2.1 (and3 (and3 h).2.2).1 (s_E a W s X c (and3 (and3 h).2.2).2.1) (s_E b W s X c (and3 (and3 h).2.2).2.2)
end
end
end Co
set_option Elab.async false
set_option linter.all false
set_option maxRecDepth 100000
set_option maxHeartbeats 4000000
namespace Co
open PySem PySem.Spec PyProof.Rows L2 HotX L2H
def PostS (Γ : Mo) (W : WX) (G0 : Gh) (H0 : Hp) (G : Gh) (H : Hp) (r : Option (Res (Fl × En) × St2)) (Z : Ends) : Prop := match r with
  | none => False
  | some (.ex g n, s') => ∀ cls da σ G' H', Grow G0 H0 G' H' → SOk Γ G' H' s' → ExR Γ H' g n cls da → W cls da σ H'
  | some (.ok (.nx, env'), s') => ∀ σ G' H', ER Γ G' H' env' σ → (∀ i sl p, env'[i]? = some sl → sl.mine = true → σ.getD i none = some (.ref p) → H0 p = none) → Grow G0 H0 G' H' → SOk Γ G' H' s' → GrowZ G H G' H' → Z.nx σ H'
  | some (.ok (.brk, env'), s') => ∀ σ G' H', ER Γ G' H' env' σ → (∀ i sl p, env'[i]? = some sl → sl.mine = true → σ.getD i none = some (.ref p) → H0 p = none) → Grow G0 H0 G' H' → SOk Γ G' H' s' → GrowZ G H G' H' → Z.bk σ H'
  | some (.ok (.cnt, env'), s') => ∀ σ G' H', ER Γ G' H' env' σ → (∀ i sl p, env'[i]? = some sl → sl.mine = true → σ.getD i none = some (.ref p) → H0 p = none) → Grow G0 H0 G' H' → SOk Γ G' H' s' → GrowZ G H G' H' → Z.ct σ H'
  | some (.ok (.ret d, _), s') => ∀ v G' H', Grow G0 H0 G' H' → SOk Γ G' H' s' → Rp Γ G' H' v d → Z.rt v H'
def EO (H0 : Hp) (env : En) (σ : L2.St) : Prop := ∀ i sl p, env[i]? = some sl → sl.mine = true → σ.getD i none = some (.ref p) → H0 p = none
structure Sit (Γ : Mo) (G0 : Gh) (H0 : Hp) (env : En) (s : St2) (σ : L2.St) (G : Gh) (H : Hp) : Prop where
  er : ER Γ G H env σ
  eo : EO H0 env σ
  k : SOk Γ G H s
  g : Grow G0 H0 G H
def rdS (Γ : Mo) (W : WX) (G0 : Gh) (H0 : Hp) (f : En → M (Fl × En)) : TS := fun Z σ H => ∃ env G s, Sit Γ G0 H0 env s σ G H ∧ PostS Γ W G0 H0 G H (f env s) Z
section
variable {Γ : Mo} {W : WX} {G0 G G1 : Gh} {H0 H H1 : Hp} {s s1 : St2} {env : En} {σ : L2.St} {Z : Ends}
theorem Sit.grow (c : Sit Γ G0 H0 env s σ G H) (g : Grow G H G1 H1) (k : SOk Γ G1 H1 s1) : Sit Γ G0 H0 env s1 σ G1 H1 := ⟨c.er.grow c.k g, c.eo, k, c.g.trans g⟩
theorem PostS.mono {r : Option (Res (Fl × En) × St2)} (g : GrowZ G H G1 H1) (h : PostS Γ W G0 H0 G H r Z) : PostS Γ W G0 H0 G1 H1 r Z := by
  cases r with
  | none => exact h
  | some q =>
    obtain ⟨r, s'⟩ := q
    cases r with
    | ex c n => exact h
    | ok a =>
      obtain ⟨f, env'⟩ := a
      cases f with
      | nx => exact fun σ G' H' e o g' k z => h σ G' H' e o g' k (g.trans z)
      | brk => exact fun σ G' H' e o g' k z => h σ G' H' e o g' k (g.trans z)
      | cnt => exact fun σ G' H' e o g' k z => h σ G' H' e o g' k (g.trans z)
      | ret d => exact h
theorem stR {α : Type} {m : M α} {k : α → M (Fl × En)} {Q : α → St2 → Prop} (c : Sit Γ G0 H0 env s σ G H) (h : PostS Γ W G0 H0 G H (M.bind m k s) Z) (hQ : ∀ a s1, PostS Γ W G0 H0 G H (k a s1) Z → Q a s1) : PostR Γ W σ G H (m s) Q := by
  unfold M.bind at h
  cases e : m s with
  | none => rw [e] at h; exact h
  | some q =>
    obtain ⟨r, s'⟩ := q
    rw [e] at h
    cases r with
    | ok a => exact hQ a s' h
    | ex g n => exact fun cls da G' H' g1 k1 x => h cls da σ G' H' (c.g.trans g1) k1 x
theorem stE {m : En → M D} {k : D → M (Fl × En)} {Q : VK} {fr : Bool} (c : Sit Γ G0 H0 env s σ G H) (h : PostS Γ W G0 H0 G H (M.bind (m env) k s) Z) (hQ : ∀ d s1 v G1 H1, Grow G H G1 H1 → Sit Γ G0 H0 env s1 σ G1 H1 → Rp Γ G1 H1 v d → PostS Γ W G0 H0 G1 H1 (k d s1) Z → Q v H1) : rd Γ W fr m σ H Q :=
  ⟨env, G, s, c.er, c.k, Post.weak (stR c h fun d s1 q v G1 H1 g1 k1 r => hQ d s1 v G1 H1 g1 (c.grow g1 k1) r (q.mono (g1.toZ c.k))) fr⟩
theorem stT {m : En → M D} {k : D → M (Fl × En)} {Q : Bool → Hp → Prop} (c : Sit Γ G0 H0 env s σ G H) (h : PostS Γ W G0 H0 G H (M.bind (m env) k s) Z) (hb : ∀ d s1, PostS Γ W G0 H0 G H (k d s1) Z → ∃ b, d = .bl b) (hQ : ∀ b s1 G1 H1, Grow G H G1 H1 → Sit Γ G0 H0 env s1 σ G1 H1 → PostS Γ W G0 H0 G1 H1 (k (.bl b) s1) Z → Q b H1) : rdT Γ W m σ H Q :=
  ⟨env, G, s, c.er, c.k, stR c h fun d s1 q => by
    obtain ⟨b, rfl⟩ := hb d s1 q
    exact ⟨b, rfl, fun G1 H1 g1 k1 => hQ b s1 G1 H1 g1 (c.grow g1 k1) (q.mono (g1.toZ c.k))⟩⟩
theorem nx_of (h : PostS Γ W G0 H0 G H (nxt env s) Z) (c : Sit Γ G0 H0 env s σ G1 H1) (g : GrowZ G H G1 H1) : Z.nx σ H1 := (show ∀ σ G' H', ER Γ G' H' env σ → EO H0 env σ → Grow G0 H0 G' H' → SOk Γ G' H' s → GrowZ G H G' H' → Z.nx σ H' from h) σ G1 H1 c.er c.eo c.g c.k g
theorem getD_set' {α : Type} (l : List α) (i j : Nat) (v d : α) (h : j ≠ i) : (l.set i v).getD j d = l.getD j d := by
  rw [List.getD_eq_getElem?_getD, List.getD_eq_getElem?_getD, List.getElem?_set_ne (Ne.symm h)]
theorem EO.set' {i : Nat} {sl : Sl} {o : Option V} (e : EO H0 env σ) (h : ∀ p, sl.mine = true → o = some (.ref p) → H0 p = none) (hl : env.length = σ.length) : EO H0 (env.set i sl) (σ.set i o) := fun j ds p h1 m h2 => by
  by_cases hj : j = i
  · subst hj
    by_cases hi : j < env.length
    · rw [List.getElem?_set_self hi] at h1
      rw [getD_set _ _ _ _ _ (by rw [← hl]; exact hi), if_pos rfl] at h2
      cases h1
      exact h p m h2
    · rw [set_ge _ _ _ hi] at h1
      exact absurd (List.getElem?_eq_some_iff.mp h1).1 hi
  · rw [List.getElem?_set_ne (Ne.symm hj)] at h1
    rw [getD_set' _ _ _ _ _ hj] at h2
    exact e j ds p h1 m h2
theorem Sit.set {i : Nat} {v : V} {d : D} (c : Sit Γ G0 H0 env s σ G H) (r : Rp Γ G H v d) : Sit Γ G0 H0 (env.set i (.val d)) s (σ.set i (some v)) G H := by
  refine ⟨?_, c.eo.set' (fun p z _ => nomatch z) c.er.len, c.k, c.g⟩
  by_cases hi : i < env.length
  · exact c.er.set r hi
  · rw [set_ge _ _ _ hi, set_ge _ _ _ (by rw [← c.er.len]; exact hi)]
    exact c.er
theorem getD_of {α : Type} {l : List α} {i : Nat} {v d : α} (h : l[i]? = some v) : l.getD i d = v := by rw [List.getD_eq_getElem?_getD, h]; rfl
theorem Sit.setMine {i : Nat} {p : Addr} {m : Sl} (c : Sit Γ G0 H0 env s σ G H) (g : Grow G H G1 H1) (k : SOk Γ G1 H1 s1) (hp : H p = none) (r : SlR Γ G1 H1 m (some (.ref p))) : Sit Γ G0 H0 (env.set i m) s1 (σ.set i (some (.ref p))) G1 H1 := by
  have c1 := c.grow g k
  refine ⟨?_, c1.eo.set' (fun q z e => ?_) c1.er.len, k, c1.g⟩
  · by_cases hi : i < env.length
    · refine c1.er.setMine r hi fun j es h1 m1 h2 h3 => ?_
      have q := c.er.at_ j _ h1
      cases es with
      | own _ =>
        obtain ⟨q, ys, e1, e2, _⟩ := q
        rw [e1] at h3
        cases h3
        rw [hp] at e2; cases e2
      | dic _ =>
        obtain ⟨q, ys, e1, e2, _⟩ := q
        rw [e1] at h3
        cases h3
        rw [hp] at e2; cases e2
      | un => cases m1
      | val _ => cases m1
    · rw [set_ge _ _ _ hi, set_ge _ _ _ (by rw [← c.er.len]; exact hi)]
      exact c1.er
  · cases e; exact c.g.there _ hp
theorem Sit.setOwn {i : Nat} {p : Addr} {xs : List V} {ds : List D} (c : Sit Γ G0 H0 env s σ G H) (g : Grow G H G1 H1) (k : SOk Γ G1 H1 s1) (hp : H p = none) (hx : H1 p = some (.lst xs)) (nz : ¬ G1.Z p) (nc : G1.cup ≠ some p) (r : Rps Γ G1 H1 xs ds) : Sit Γ G0 H0 (env.set i (.own ds)) s1 (σ.set i (some (.ref p))) G1 H1 :=
  c.setMine g k hp ⟨p, xs, rfl, hx, nz, nc, r⟩
theorem Sit.mut {i : Nat} {p : Addr} {xs ys : List V} {ds es : List D} (c : Sit Γ G0 H0 env s σ G H) (e1 : env[i]? = some (.own ds)) (e2 : σ[i]? = some (some (.ref p))) (hx : H p = some (.lst xs)) (nz : ¬ G.Z p) (nc : G.cup ≠ some p) (r : Rps Γ G H ys es) : Sit Γ G0 H0 (env.set i (.own es)) s σ G (upd H p (.lst ys)) := by
  have hi : i < env.length := (List.getElem?_eq_some_iff.mp e1).1
  have hg : σ.getD i none = some (.ref p) := getD_of e2
  have hs : σ.set i (some (.ref p)) = σ := by
    apply List.ext_getElem?
    intro j
    by_cases hj : j = i
    · subst hj; rw [List.getElem?_set_self (by rw [← c.er.len]; exact hi), e2]
    · rw [List.getElem?_set_ne (Ne.symm hj)]
  refine ⟨⟨by simp [c.er.len], fun j sl h => ?_, fun j l q as bs h1 h2 m1 m2 h3 h4 => ?_⟩, ?_, c.k.mut hx nz nc, c.g.mut _ (c.eo i _ p e1 rfl hg)⟩
  · by_cases hj : j = i
    · subst hj
      rw [List.getElem?_set_self hi] at h
      cases h
      exact ⟨p, ys, hg, upd_same, nz, nc, r.mut hx nz⟩
    · rw [List.getElem?_set_ne (Ne.symm hj)] at h
      have q := c.er.at_ j sl h
      cases sl with
      | un => trivial
      | val d =>
        obtain ⟨v, e, r⟩ := q
        exact ⟨v, e, r.mut hx nz⟩
      | own bs =>
        obtain ⟨p2, zs, f1, f2, f3, f4, f5⟩ := q
        have np : p2 ≠ p := fun z => by
          subst z
          exact hj (c.er.inj j i p2 _ _ h e1 rfl rfl f1 hg)
        exact ⟨p2, zs, f1, by rw [upd_ne np]; exact f2, f3, f4, f5.mut hx nz⟩
      | dic bs =>
        obtain ⟨p2, zs, f1, f2, f3, f4⟩ := q
        exact ⟨p2, zs, f1, by rw [upd_ne (fun z => by subst z; rw [hx] at f2; cases f2)]; exact f2, f3.imp fun _ _ h => h.mut hx nz, f4⟩
  · have key : ∀ {j : Nat} {as : Sl}, (env.set i (.own es))[j]? = some as → as.mine = true → ∃ bs, env[j]? = some bs ∧ bs.mine = true := fun {j as} h m => by
      by_cases hj : j = i
      · subst hj; exact ⟨_, e1, rfl⟩
      · rw [List.getElem?_set_ne (Ne.symm hj)] at h; exact ⟨as, h, m⟩
    obtain ⟨as', h1, m1⟩ := key h1 m1
    obtain ⟨bs', h2, m2⟩ := key h2 m2
    exact c.er.inj j l q as' bs' h1 h2 m1 m2 h3 h4
  · have z := c.eo.set' (i := i) (sl := .own es) (o := some (.ref p)) (fun q _ e => by cases e; exact c.eo i _ p e1 rfl hg) c.er.len
    rw [hs] at z
    exact z
theorem Sit.mutD {i : Nat} {p : Addr} {xs ys : List (List L2.Key × V)} {ds es : List (List L2.Key × D)} (c : Sit Γ G0 H0 env s σ G H) (e1 : env[i]? = some (.dic ds)) (e2 : σ[i]? = some (some (.ref p))) (hx : H p = some (.dT xs)) (r : Rks Γ G H ys es) (nd : (es.map (·.1)).Nodup) : Sit Γ G0 H0 (env.set i (.dic es)) s σ G (upd H p (.dT ys)) := by
  have hi : i < env.length := (List.getElem?_eq_some_iff.mp e1).1
  have hg : σ.getD i none = some (.ref p) := getD_of e2
  have hs : σ.set i (some (.ref p)) = σ := by
    apply List.ext_getElem?
    intro j
    by_cases hj : j = i
    · subst hj; rw [List.getElem?_set_self (by rw [← c.er.len]; exact hi), e2]
    · rw [List.getElem?_set_ne (Ne.symm hj)]
  refine ⟨⟨by simp [c.er.len], fun j sl h => ?_, fun j l q as bs h1 h2 m1 m2 h3 h4 => ?_⟩, ?_, c.k.mutD hx, c.g.mut _ (c.eo i _ p e1 rfl hg)⟩
  · by_cases hj : j = i
    · subst hj
      rw [List.getElem?_set_self hi] at h
      cases h
      exact ⟨p, ys, hg, upd_same, r.imp fun _ _ h => h.mutD hx, nd⟩
    · rw [List.getElem?_set_ne (Ne.symm hj)] at h
      have q := c.er.at_ j sl h
      cases sl with
      | un => trivial
      | val d =>
        obtain ⟨v, e, r⟩ := q
        exact ⟨v, e, r.mutD hx⟩
      | own bs =>
        obtain ⟨p2, zs, f1, f2, f3, f4, f5⟩ := q
        exact ⟨p2, zs, f1, by rw [upd_ne (fun z => by subst z; rw [hx] at f2; cases f2)]; exact f2, f3, f4, f5.mutD hx⟩
      | dic bs =>
        obtain ⟨p2, zs, f1, f2, f3, f4⟩ := q
        have np : p2 ≠ p := fun z => by
          subst z
          exact hj (c.er.inj j i p2 _ _ h e1 rfl rfl f1 hg)
        exact ⟨p2, zs, f1, by rw [upd_ne np]; exact f2, f3.imp fun _ _ h => h.mutD hx, f4⟩
  · have key : ∀ {j : Nat} {as : Sl}, (env.set i (.dic es))[j]? = some as → as.mine = true → ∃ bs, env[j]? = some bs ∧ bs.mine = true := fun {j as} h m => by
      by_cases hj : j = i
      · subst hj; exact ⟨_, e1, rfl⟩
      · rw [List.getElem?_set_ne (Ne.symm hj)] at h; exact ⟨as, h, m⟩
    obtain ⟨as', h1, m1⟩ := key h1 m1
    obtain ⟨bs', h2, m2⟩ := key h2 m2
    exact c.er.inj j l q as' bs' h1 h2 m1 m2 h3 h4
  · have z := c.eo.set' (i := i) (sl := .dic es) (o := some (.ref p)) (fun q _ e => by cases e; exact c.eo i _ p e1 rfl hg) c.er.len
    rw [hs] at z
    exact z
theorem Sit.freeze {i : Nat} {ds : List D} (c : Sit Γ G0 H0 env s σ G H) (e : env.own i = some ds) : ∃ p, Sit Γ G0 H0 (env.set i (.val (.lst ds))) s σ (G.add p) H := by
  obtain ⟨p, xs, e1, hx, nz, nc, r, e3⟩ := c.er.own e
  have hi : i < env.length := (List.getElem?_eq_some_iff.mp e3).1
  refine ⟨p, c.er.freeze e3 e1 hx r, fun j es q h1 m h2 => ?_, c.k.add nc hx, ?_⟩
  · by_cases hj : j = i
    · subst hj; rw [List.getElem?_set_self hi] at h1; cases h1; cases m
    · rw [List.getElem?_set_ne (Ne.symm hj)] at h1
      exact c.eo j es q h1 m h2
  · exact c.g.add (c.eo i _ p e3 rfl (getD_of e1))
theorem Sit.cup {p : Addr} {x y x' y' : Int} (c : Sit Γ G0 H0 env (some (x, y)) σ G H) (hc : G.cup = some p) : Sit Γ G0 H0 env (some (x', y')) σ G (upd H p (.lst [.int x', .int y'])) := by
  obtain ⟨a, e1, e2, n⟩ := c.k.cup
  rw [hc] at e1; cases e1
  have sm : ∀ b u, H b = some u → (∀ zs, u ≠ .lst zs) → upd H p (.lst [.int x', .int y']) b = some u := fun b u h n => by
    rw [upd_ne (fun z => by subst z; rw [e2] at h; cases h; exact n _ rfl)]; exact h
  refine ⟨⟨c.er.len, fun j sl h => ?_, c.er.inj⟩, c.eo, ⟨⟨p, hc, upd_same, n⟩, fun q hq => ?_, fun f d q h => sm _ _ (c.k.thk f d q h) (fun _ z => nomatch z), fun a ns h => (c.k.scr a ns h).to (fun _ z => z) (fun u h2 h3 => ?_), fun a z => ?_, fun q hq => (c.k.held q hq).mut e2 n⟩, ⟨c.g.z, c.g.nz, c.g.cup, c.g.ncup, fun a o h1 h2 h3 => ?_, fun a h => ?_⟩⟩
  · have q := c.er.at_ j sl h
    cases sl with
    | un => trivial
    | val d =>
      obtain ⟨v, e, r⟩ := q
      exact ⟨v, e, r.mut e2 n⟩
    | own bs =>
      obtain ⟨p2, zs, f1, f2, f3, f4, f5⟩ := q
      have np : p2 ≠ p := fun z => f4 (by rw [hc, z])
      exact ⟨p2, zs, f1, by rw [upd_ne np]; exact f2, f3, f4, f5.mut e2 n⟩
    | dic bs =>
      obtain ⟨p2, zs, f1, f2, f3, f4⟩ := q
      exact ⟨p2, zs, f1, by rw [upd_ne (fun z => by subst z; rw [e2] at f2; cases f2)]; exact f2, f3.imp fun _ _ h => h.mut e2 n, f4⟩
  · obtain ⟨ps, h1, h2, h3⟩ := c.k.tabs q hq
    refine ⟨ps, sm _ _ h1 (fun _ z => nomatch z), h2, fun pos cv hc => ?_⟩
    obtain ⟨d, e1, e2⟩ := h3 pos cv hc
    exact ⟨d, e1, sm _ _ e2 (fun _ z => nomatch z)⟩
  · rcases h3 with h3 | h3
    · rw [upd_ne (fun z => n (by rw [← z]; exact h3))]; exact h2
    · exact sm _ _ h2 h3
  · obtain ⟨zs, h⟩ := c.k.zl a z
    exact ⟨zs, by rw [upd_ne (fun q => n (by rw [← q]; exact z))]; exact h⟩
  · by_cases q : a = p
    · subst q
      rcases c.g.ncup a hc with w | w
      · exact absurd w h2
      · rw [h1] at w; cases w
    · rw [upd_ne q]; exact c.g.keep a o h1 h2 h3
  · by_cases q : a = p
    · subst q; rw [upd_same] at h; cases h
    · rw [upd_ne q] at h; exact c.g.there a h
theorem GrowZ.mut {p : Addr} {xs ys : List V} (hx : H p = some (.lst xs)) (nz : ¬ G.Z p) : GrowZ G H G (L2.upd H p (.lst ys)) :=
  ⟨fun _ h => h, fun _ h => h, fun a o h t c => by
    rw [upd_ne (fun q => by
      subst q
      rcases c with c | c
      · exact nz c
      · rw [hx] at h; cases h; exact c _ rfl)]; exact h⟩
theorem GrowZ.add (p : Addr) : GrowZ G H (G.add p) H := ⟨fun _ h => .inl h, fun _ h => h, fun _ _ h _ _ => h⟩
end
end Co
set_option Elab.async false
set_option linter.all false
set_option maxRecDepth 100000
set_option maxHeartbeats 4000000
namespace Co
open PySem PySem.Spec PyProof.Rows L2 HotX L2H
structure Sxt (Γ : Mo) (N GN : List Str) (K : Nat → GK) (C : Cl) (W : WX) (s : Sc) (w : List Nat) (X : Cx) : Prop where
  c : Cxt Γ N GN K C W s X
  own : PassesOwn (model X.prog X.w) X.A X.env X.xe
  sto : Sto X w
  kf : X.env.blockKind = .function
  rai : s.cold = true → ∀ g x k gp sp cp, K g = .cls → s.gls.contains g = true → L2N.PMk X (.Call (.Name (nm GN g) gp) [.Constant (.str x) k sp] [] cp) (fun _ H Q => Q (.ref (Γ.at_ g)) none H)
def swNames (sc : Scope) (ts : List Expr) : List Str := ts.filterMap fun
    | .Name id pos => if sc.names.lookup id == some .local && pos.line == (ts.head?.map (·.pos.line)).getD 0 then some id else none
    | _ => none
def swNone (sc : Scope) (ts : List Expr) : Expr → Bool
  | .Tuple vs _ _ => !(ts.length == 2 || ts.length == 3) || vs.length != ts.length || ((swNames sc ts).length != ts.length || (swNames sc ts).eraseDups.length != (swNames sc ts).length) || vs.all (foldedForSure 8)
  | _ => true
def isLc : Expr → Bool
  | .ListComp _ _ _ _ => true
  | .SetComp _ _ _ _ => true
  | .DictComp _ _ _ _ _ => true
  | _ => false
section
variable {N GN : List Str}
theorem nostar_back (env : Env) : ∀ es : Es, ((backs N GN es).any fun | .Starred .. => true | _ => false) = false
  | .nil => rfl
  | .cons e es => by
    show (((match back N GN e with | .Starred .. => true | _ => false)) || ((backs N GN es).any fun | .Starred .. => true | _ => false)) = false
    rw [nostar_back env es, Bool.or_false]
    have h : ∀ e : E, (match back N GN e with | .Starred .. => true | _ => false) = false := fun e => by
      induction e using E.rec (motive_2 := fun _ => True) (motive_3 := fun _ => True) (motive_4 := fun _ => True) (motive_5 := fun _ => True) (motive_6 := fun _ => True) <;> first | rfl | trivial | assumption
    exact h e
theorem swStores_none {env : Env} {ts : List Expr} {k : Nat} {tp : Pos} {e : Expr} (hns : ∀ vs k p, e = .Tuple vs k p → (vs.any fun | .Starred .. => true | _ => false) = false) (h : swNone env.scope ts e = true) : swappedStores [.Tuple ts k tp] e env = pure none := by
  cases e with
  | Tuple vs k2 p2 =>
    have hst := hns vs k2 p2 rfl
    unfold swNone at h
    unfold swappedStores
    show (if (!(ts.length == 2 || ts.length == 3) || vs.length != ts.length || env.blockKind != .function) = true then _ else _) = _
    by_cases h1 : (!(ts.length == 2 || ts.length == 3) || vs.length != ts.length || env.blockKind != .function) = true
    · rw [if_pos h1]
    · rw [if_neg h1]
      refine (if_neg (fun z => absurd (show (vs.any fun | .Starred .. => true | _ => false) = true from z) (by rw [hst]; decide))).trans ?_
      have e1 : (List.filterMap (fun x => match x with | .Name id pos => if (env.kindOf id == some NameKind.local && pos.line == (Option.map (fun x => x.pos.line) ts.head?).getD 0) = true then some id else none | _ => none) ts) = swNames env.scope ts := rfl
      show (if ((swNames env.scope ts).length != ts.length || (swNames env.scope ts).eraseDups.length != (swNames env.scope ts).length) = true then _ else _) = _
      by_cases h2 : ((swNames env.scope ts).length != ts.length || (swNames env.scope ts).eraseDups.length != (swNames env.scope ts).length) = true
      · rw [if_pos h2]
      · rw [if_neg h2]
        have h3 : vs.all (foldedForSure 8) = true := by
          simp only [Bool.or_eq_true] at h h1 h2
          rcases h with (h | h) | h
          · exact absurd (Or.inl h) h1
          · exact absurd h h2
          · exact h
        show (if vs.all (foldedForSure 8) = true then _ else _) = _
        rw [if_pos h3]
  | _ => rfl
theorem swStores_some {env : Env} {ts vs : List Expr} {k k2 : Nat} {tp p2 : Pos} (hf : env.blockKind = .function) (hst : (vs.any fun | .Starred .. => true | _ => false) = false) (h : swNone env.scope ts (.Tuple vs k2 p2) = false) (h4 : vs.all (constantsAlone 8) = false) : swappedStores [.Tuple ts k tp] (.Tuple vs k2 p2) env = pure (some (swNames env.scope ts)) := by
  unfold swNone at h
  simp only [Bool.or_eq_false_iff] at h
  obtain ⟨⟨⟨h0, h1⟩, h2⟩, h3⟩ := h
  unfold swappedStores
  show (if (!(ts.length == 2 || ts.length == 3) || vs.length != ts.length || env.blockKind != .function) = true then _ else _) = _
  rw [if_neg (by rw [h0, h1, hf]; decide)]
  refine (if_neg (fun z => absurd (show (vs.any fun | .Starred .. => true | _ => false) = true from z) (by rw [hst]; decide))).trans ?_
  show (if ((swNames env.scope ts).length != ts.length || (swNames env.scope ts).eraseDups.length != (swNames env.scope ts).length) = true then _ else _) = _
  rw [if_neg (by rw [h2.1, h2.2]; decide)]
  show (if vs.all (foldedForSure 8) = true then _ else _) = _
  rw [if_neg (by rw [h3]; decide)]
  show (if vs.all (constantsAlone 8) = true then _ else _) = _
  rw [if_neg (by rw [h4]; decide)]
  rfl
end
theorem swSole_tup {ts : List Expr} {k : Nat} {tp : Pos} {e : Expr} {l : Nat} {env : Env} : swapsWithSole [.Tuple ts k tp] e l env = pure false := by
  cases e <;> rfl
section
variable {Γ : Mo} {N GN : List Str} {K : Nat → GK} {C : Cl} {W : WX} {s : Sc} {w : List Nat} {X : Cx} {G0 : Gh} {H0 : Hp}
theorem st_set {i : Nat} {ip p : Pos} {e : E} (c : Sxt Γ N GN K C W s w X) (hi : w.contains i = true) (he : okE N GN K s e = true) (hn : e.noLc = true) : PS X (.Assign [.Name (nm N i) ip] (back N GN e) p) (tAsg (rd Γ W e.isO (ev C e)) (gName i)) := by
  obtain ⟨x, hx, hl, hf⟩ := c.sto.at_ i (by simpa using hi)
  have e1 : nm N i = x := nm_of (by rw [← c.c.hN]; exact hx)
  rw [e1]
  exact ps_set c.sto.nd hx hl (s_E e W s X c.c he) (sw_back N GN _ _ _ e hn) hf
theorem st_lc {i : Nat} {ip p q : Pos} {elt : E} {t : T} {it : I} {cs : Es} {lsc : Scope} {own vis gls : List Nat} (c : Sxt Γ N GN K C W s w X) (hi : w.contains i = true) (he : okE N GN K s (.lc elt t it cs lsc own vis gls q) = true) :
    PS X (.Assign [.Name (nm N i) ip] (back N GN (.lc elt t it cs lsc own vis gls q)) p) (tAsg (rd Γ W true (ev C (.lc elt t it cs lsc own vis gls q))) (gName i)) := by
  obtain ⟨x, hx, hl, hf⟩ := c.sto.at_ i (by simpa using hi)
  have e1 : nm N i = x := nm_of (by rw [← c.c.hN]; exact hx)
  rw [e1]
  have hsw : swapsWith (back N GN (.lc elt t it cs lsc own vis gls q)) (some (.Name x ip)) p.line X.env = pure (X.env.blockKind == .function && X.env.kindOf x == some .local && ip.line == q.line && !(lsc.names.any fun (n, k) => n == x && (k == .local || k == .cell))) := rfl
  cases hb : (X.env.blockKind == .function && X.env.kindOf x == some .local && ip.line == q.line && !(lsc.names.any fun (n, k) => n == x && (k == .local || k == .cell))) with
  | false =>
    rw [hb] at hsw
    exact ps_set c.sto.nd hx hl (s_E (.lc elt t it cs lsc own vis gls q) W s X c.c he) hsw hf
  | true =>
    rw [hb] at hsw
    obtain ⟨h0, h1, h2⟩ := and3 he
    obtain ⟨h3, h4, h5⟩ := and3 h2
    obtain ⟨h6, h7, h8⟩ := and3 h5
    obtain ⟨h9, h10, h11⟩ := and3 h8
    have hyl : X.env.scope.names.lookup x = some .local := by
      have := (Bool.and_eq_true_iff.mp (Bool.and_eq_true_iff.mp (Bool.and_eq_true_iff.mp hb).1).1).2
      have z : X.env.kindOf x = some .local := by simpa using this
      exact z
    refine PS.imp (ps_setLcM (m := mX X) (g := gT Γ own t) (tt := tOf Γ C cs) (te := rd Γ noW elt.isO (ev C elt)) (fun s0 H ce fp => mX_blk c.c.md s0 H lsc ce fp) (by rw [c.c.hN]; exact c.c.nd) hx hyl hsw (s_I it t W s X c.c h0) (by rw [c.c.hN, c.c.sc]; exact blkOk_by h1) (fun s0 H L cl fp => ?_) (fun s0 H L cl fp => ?_) (fun s0 H L cl fp => s_E elt noW _ _ (c.c.blk h3 h4 s0 H L cl fp) (and2 h10).1) (fun x => fold_backI it X.env x)) fun Z σ H h => ?_
    · have cb := c.c.blk h3 h4 s0 H L cl fp
      exact g_T N GN cb.hK (stoB_ok cb.hN cb.nd cb.md cb.sc (fun x h => by show (lsc.names.lookup x == some .cell) = true; rw [h]; rfl) h7) cb.hN t h6
    · exact pts_tOf cs h11 fun e q => s_T e noW _ _ (c.c.blk h3 h4 s0 H L cl fp) (by
        have z := (and2 h10).2
        rw [q] at z
        exact (and2 z).1)
    · exact i_lc c.c h11 h6 h
theorem st_name (c : Sxt Γ N GN K C W s w X) {i : Nat} {ip p : Pos} (hi : w.contains i = true) : ∀ e : E, okE N GN K s e = true → PS X (.Assign [.Name (nm N i) ip] (back N GN e) p) (tAsg (rd Γ W e.isO (ev C e)) (gName i))
  | .lc elt t it cs lsc own vis gls q, h => st_lc c hi h
  | .bor j e, h => PS.imp (st_name c hi e (and2 h).2) fun Z σ H q => i_bor q
  | .v a b, h => st_set c hi h rfl
  | .int a b d, h => st_set c hi h rfl
  | .bl a b d, h => st_set c hi h rfl
  | .non a b, h => st_set c hi h rfl
  | .str a b d, h => st_set c hi h rfl
  | .gl a b d, h => st_set c hi h rfl
  | .bin a b d e, h => st_set c hi h rfl
  | .neg a b, h => st_set c hi h rfl
  | .not a b, h => st_set c hi h rfl
  | .cmp a b d e, h => st_set c hi h rfl
  | .cmp2 a b d e f g, h => st_set c hi h rfl
  | .bop a b d, h => st_set c hi h rfl
  | .ife a b d e, h => st_set c hi h rfl
  | .tup a b d, h => st_set c hi h rfl
  | .lst a b, h => st_set c hi h rfl
  | .ix a b d, h => st_set c hi h rfl
  | .sl a b d e f, h => st_set c hi h rfl
  | .rev a b d e f g, h => st_set c hi h rfl
  | .call a b d e, h => st_set c hi h rfl
  | .callv a b d e, h => st_set c hi h rfl
  | .act a b d, h => st_set c hi h rfl
  | .lam a b d e f g j k l, h => st_set c hi h rfl
  | .blt a b d e f, h => st_set c hi h rfl
  | .isi a b d e f g, h => st_set c hi h rfl
  | .ncup a b d, h => st_set c hi h rfl
  | .join a b d e f g, h => st_set c hi h rfl
  | .dget a b d e f g, h => st_set c hi h rfl
  | .dgt a b d e f g j k, h => st_set c hi h rfl
theorem st_asg (c : Sxt Γ N GN K C W s w X) {i : Nat} {ip p : Pos} {e : E} (hi : w.contains i = true) (he : okE N GN K s e = true) : PS X (.Assign [.Name (nm N i) ip] (back N GN e) p) (rdS Γ W G0 H0 (ex C (.asg (.nm i ip) e p))) :=
  PS.imp (st_name c hi e he) fun Z σ H ⟨env, G, t, S, q⟩ =>
    stE S (show PostS Γ W G0 H0 G H (M.bind (ev C e env) (fun x => M.bind (M.of (some (env.set i (.val x)))) nxt) t) Z from q) fun d s1 v G1 H1 g1 S1 r q1 => nx_of (show PostS Γ W G0 H0 _ _ (nxt (env.set i (.val d)) s1) Z from q1) (S1.set r) (.refl _ _)
theorem st_asgO (c : Sxt Γ N GN K C W s w X) {i : Nat} {ip p : Pos} {e : E} (hi : w.contains i = true) (he : okE N GN K s e = true) (ho : e.isO = true) : PS X (.Assign [.Name (nm N i) ip] (back N GN e) p) (rdS Γ W G0 H0 (ex C (.asgO i ip e p))) :=
  PS.imp (st_name c hi e he) fun Z σ H ⟨env, G, t, S, q⟩ => by
    rw [ho]
    refine ⟨env, G, t, S.er, S.k, stR S (show PostS Γ W G0 H0 G H (M.bind (ev C e env) (fun x => match x with | .lst l => nxt (env.set i (.own l)) | _ => M.no) t) Z from q) fun d s1 q1 => ?_⟩
    cases d with
    | lst l =>
      show ∀ p xs G' H', Grow G H G' H' → SOk Γ G' H' s1 → H p = none → H' p = some (.lst xs) → ¬ G'.Z p → G'.cup ≠ some p → Rps Γ G' H' xs l → gName i (.ref p) σ H' Z.nx
      intro a xs G' H' g k hp hx nz nc r
      exact nx_of (show PostS Γ W G0 H0 _ _ (nxt (env.set i (.own l)) s1) Z from q1) (S.setOwn g k hp hx nz nc r) (g.toZ S.k)
    | _ => exact (show False from q1).elim
mutual
theorem tgt_own : ∀ (t : T) (d : D) (env env' : En), tgt t d env = some env' → ∀ j ds, env'[j]? = some ds → ds.mine = true → env[j]? = some ds ∧ j ∉ t.slots
  | .nm i p, d, env, env', h, j, ds, hj, hm => by
    have h : some (env.set i (.val d)) = some env' := h
    cases h
    by_cases e : j = i
    · subst e
      by_cases hi : j < env.length
      · rw [List.getElem?_set_self hi] at hj; cases hj; cases hm
      · rw [set_ge _ _ _ hi] at hj; exact absurd (List.getElem?_eq_some_iff.mp hj).1 hi
    · rw [List.getElem?_set_ne (Ne.symm e)] at hj
      exact ⟨hj, by simpa [T.slots] using e⟩
  | .tp ts k p, .tup l, env, env', h, j, ds, hj, hm => tgts_own ts l env env' h j ds hj hm
  | .tp ts k p, .non, env, env', h, j, ds, hj, hm => by cases h
  | .tp ts k p, .bl _, env, env', h, j, ds, hj, hm => by cases h
  | .tp ts k p, .int _, env, env', h, j, ds, hj, hm => by cases h
  | .tp ts k p, .str _, env, env', h, j, ds, hj, hm => by cases h
  | .tp ts k p, .lst _, env, env', h, j, ds, hj, hm => by cases h
  | .tp ts k p, .cup, env, env', h, j, ds, hj, hm => by cases h
  | .tp ts k p, .fn _, env, env', h, j, ds, hj, hm => by cases h
  | .tp ts k p, .thk, env, env', h, j, ds, hj, hm => by cases h
  | .tp ts k p, .exc _ _, env, env', h, j, ds, hj, hm => by cases h
  | .tp ts k p, .scr _, env, env', h, j, ds, hj, hm => by cases h
theorem tgts_own : ∀ (ts : Ts) (l : List D) (env env' : En), tgts ts l env = some env' → ∀ j ds, env'[j]? = some ds → ds.mine = true → env[j]? = some ds ∧ j ∉ ts.slots
  | .nil, [], env, env', h, j, ds, hj, hm => by
    cases h
    exact ⟨hj, by simp [Ts.slots]⟩
  | .nil, _ :: _, env, env', h, j, ds, hj, hm => by simp [tgts] at h
  | .cons _ _, [], env, env', h, j, ds, hj, hm => by simp [tgts] at h
  | .cons t ts, d :: l, env, env', h, j, ds, hj, hm => by
    rw [tgts] at h
    cases e : tgt t d env with
    | none => rw [e] at h; cases h
    | some env1 =>
      rw [e] at h
      obtain ⟨h1, h2⟩ := tgts_own ts l env1 env' h j ds hj hm
      obtain ⟨h3, h4⟩ := tgt_own t d env env1 e j ds h1 hm
      exact ⟨h3, by simp [Ts.slots, h2, h4]⟩
end
theorem sit_tgt {G : Gh} {H : Hp} {env : En} {u : St2} {σ : L2.St} {t : T} {d : D} {env' : En} {v : V} {Q : L2.St → Hp → Prop} (S : Sit Γ G0 H0 env u σ G H) (r : Rp Γ G H v d) (e : tgt t d env = some env') (q : ∀ σ', Sit Γ G0 H0 env' u σ' G H → Q σ' H) : gT Γ w t v σ H Q :=
  ⟨env, G, u, d, env', S.er, S.k, r, e, fun σ' er' _ hj => q σ' ⟨er', fun j ds p h1 m h2 => by
    obtain ⟨h3, h4⟩ := tgt_own t d env env' e j ds h1 m
    rw [hj j h4] at h2
    exact S.eo j ds p h3 m h2, S.k, S.g⟩⟩
theorem st_tup (c : Sxt Γ N GN K C W s w X) {ts : Ts} {k : Nat} {tp p : Pos} {e : E} (ht : ts.ok w = true) (he : okE N GN K s e = true) (hs : swNone s.sc (backTs N GN ts) (back N GN e) = true) : PS X (.Assign [.Tuple (backTs N GN ts) k tp] (back N GN e) p) (rdS Γ W G0 H0 (ex C (.asg (.tp ts k tp) e p))) := by
  have hst : ∀ vs k p, back N GN e = .Tuple vs k p → (vs.any fun | .Starred .. => true | _ => false) = false := fun vs k2 p2 q => by
    have tupE : ∀ e : E, ∀ vs k p, back N GN e = .Tuple vs k p → ∃ es, vs = backs N GN es := by
      intro e
      induction e using E.rec (motive_2 := fun _ => True) (motive_3 := fun _ => True) (motive_4 := fun _ => True) (motive_5 := fun _ => True) (motive_6 := fun _ => True) <;> first | trivial | (intro vs k p h; cases h; done) | (intro vs k p h; cases h; exact ⟨_, rfl⟩) | assumption
    obtain ⟨es, rfl⟩ := tupE e vs k2 p2 q
    exact nostar_back X.env es
  refine PS.imp (ps_asg (s_E e W s X c.c he) (g_T N GN c.c.hK c.sto c.c.hN (.tp ts k tp) ht) swSole_tup (swStores_none hst (by rw [c.c.sc]; exact hs)) rfl) fun Z σ H ⟨env, G, t, S, q⟩ =>
    stE S (show PostS Γ W G0 H0 G H (M.bind (ev C e env) (fun x => M.bind (M.of (tgt (.tp ts k tp) x env)) nxt) t) Z from q) fun d s1 v G1 H1 g1 S1 r q1 => ?_
  cases e1 : tgt (.tp ts k tp) d env with
  | none => rw [e1] at q1; exact (show False from q1).elim
  | some env' =>
    rw [e1] at q1
    exact sit_tgt S1 r e1 fun σ' S' => nx_of (show PostS Γ W G0 H0 _ _ (nxt env' s1) Z from q1) S' (.refl _ _)
theorem stA {G : Gh} {H : Hp} {env : En} {u : St2} {σ : L2.St} {Z : Ends} {m : En → M (List D)} {k : List D → M (Fl × En)} {Q : List V → Hp → Prop} (S : Sit Γ G0 H0 env u σ G H) (h : PostS Γ W G0 H0 G H (M.bind (m env) k u) Z) (hQ : ∀ ds s1 vs G1 H1, Grow G H G1 H1 → Sit Γ G0 H0 env s1 σ G1 H1 → Rps Γ G1 H1 vs ds → PostS Γ W G0 H0 G1 H1 (k ds s1) Z → Q vs H1) : rdA Γ W m σ H Q :=
  ⟨env, G, u, S.er, S.k, stR S h fun ds s1 q vs G1 H1 g1 k1 r => hQ ds s1 vs G1 H1 g1 (S.grow g1 k1) r (q.mono (g1.toZ S.k))⟩
def parB (N : List Str) (sc : Scope) (i : Nat) : Bool := decide (i < N.length) && decide (sc.names.lookup (nm N i) = some .local)
theorem parB_ok {i : Nat} (hN : X.N = N) (hs : X.env.scope = s.sc) (h : parB N s.sc i = true) : X.N[i]? = some (nm N i) ∧ X.env.scope.names.lookup (nm N i) = some .local := by
  obtain ⟨h1, h2⟩ := Bool.and_eq_true_iff.mp h
  have h1 := of_decide_eq_true h1
  refine ⟨?_, by rw [hs]; exact of_decide_eq_true h2⟩
  rw [hN]
  unfold nm
  rw [List.getD_eq_getElem?_getD, List.getElem?_eq_getElem h1, Option.getD_some]
def ItR (Γ : Mo) (G : Gh) (H Hs : Hp) (o : Bool) (d : D) (v : V) : Prop := match o, d with
  | true, .lst ds => ∃ p xs, v = .ref p ∧ Hs p = none ∧ H p = some (.lst xs) ∧ ¬ G.Z p ∧ G.cup ≠ some p ∧ Rps Γ G H xs ds
  | true, _ => True
  | false, d => Rp Γ G H v d
theorem ItR.grow {Γ : Mo} {G G1 : Gh} {H H1 Hs : Hp} {o : Bool} {d : D} {v : V} {s : St2} (r : ItR Γ G H Hs o d v) (k : SOk Γ G H s) (g : Grow G H G1 H1) : ItR Γ G1 H1 Hs o d v := by
  cases o with
  | false => exact Rp.grow k g (show Rp Γ G H v d from r)
  | true =>
    cases d with
    | lst ds =>
      obtain ⟨p, xs, e, h0, hp, nz, nc, r⟩ := r
      exact ⟨p, xs, e, h0, g.keep p _ hp nc (fun _ z => nomatch z), fun z => (g.nz p z).elim nz (fun e2 => by rw [hp] at e2; cases e2), fun z => (g.ncup p z).elim nc (fun e2 => by rw [hp] at e2; cases e2), r.grow k g⟩
    | _ => trivial
theorem stI {G : Gh} {H : Hp} {env : En} {u : St2} {σ : L2.St} {Z : Ends} {m : En → M D} {k : D → M (Fl × En)} {Q : VK} {fr : Bool} (o : Bool) (ho : o = true → fr = true) (S : Sit Γ G0 H0 env u σ G H) (h : PostS Γ W G0 H0 G H (M.bind (m env) k u) Z)
    (hQ : ∀ d s1 v G1 H1, Grow G H G1 H1 → Sit Γ G0 H0 env s1 σ G1 H1 → ItR Γ G1 H1 H o d v → PostS Γ W G0 H0 G1 H1 (k d s1) Z → Q v H1) : rd Γ W fr m σ H Q := by
  cases o with
  | false => exact stE S h fun d s1 v G1 H1 g1 S1 r q => hQ d s1 v G1 H1 g1 S1 r q
  | true =>
    have := ho rfl
    subst this
    refine ⟨env, G, u, S.er, S.k, stR S h fun d s1 q => ?_⟩
    by_cases hl : ∃ l, d = .lst l
    · obtain ⟨ds, rfl⟩ := hl
      show ∀ p xs G' H', Grow G H G' H' → SOk Γ G' H' s1 → H p = none → H' p = some (.lst xs) → ¬ G'.Z p → G'.cup ≠ some p → Rps Γ G' H' xs ds → Q (.ref p) H'
      exact fun p xs G1 H1 g1 k1 hp hx nz nc r => hQ (.lst ds) s1 (.ref p) G1 H1 g1 (S.grow g1 k1) ⟨p, xs, rfl, hp, hx, nz, nc, r⟩ (q.mono (g1.toZ S.k))
    · have it : ∀ v G1 H1, ItR Γ G1 H1 H true d v := fun v G1 H1 => by
        cases d with
        | lst l => exact absurd ⟨l, rfl⟩ hl
        | _ => exact True.intro
      have pv : (∀ v G' H', Grow G H G' H' → SOk Γ G' H' s1 → Rp Γ G' H' v d → Q v H') → PostV Γ G H s1 true d Q := fun z => by
        cases d with
        | lst l => exact absurd ⟨l, rfl⟩ hl
        | _ => exact z
      exact pv fun v G1 H1 g1 k1 r => hQ d s1 v G1 H1 g1 (S.grow g1 k1) (it v G1 H1) (q.mono (g1.toZ S.k))
def Pres (Hs : Hp) (env : En) (σ : L2.St) : Prop := ∀ j sl p, env[j]? = some sl → sl.mine = true → σ.getD j none = some (.ref p) → Hs p ≠ none
theorem Sit.pres {G : Gh} {H : Hp} {env : En} {u : St2} {σ : L2.St} (S : Sit Γ G0 H0 env u σ G H) : Pres H env σ := fun j sl p h m e => by
  have q := S.er.at_ j sl h
  cases sl with
  | own _ => obtain ⟨p', xs, e1, e2, _⟩ := q; rw [e] at e1; cases e1; rw [e2]; exact fun z => nomatch z
  | dic _ => obtain ⟨p', xs, e1, e2, _⟩ := q; rw [e] at e1; cases e1; rw [e2]; exact fun z => nomatch z
  | un => cases m
  | val _ => cases m
theorem Pres.setIt {G1 : Gh} {Hs H1 : Hp} {env env' : En} {σ : L2.St} {o : Bool} {i : Nat} {d : D} {v : V} (pr : Pres Hs env σ) (th : ∀ a, H1 a = none → Hs a = none) (r : ItR Γ G1 H1 Hs o d v) (e : stF o i d env = some env') : Pres H1 env' (σ.set i (some v)) := by
  intro j sl p h m q
  cases o with
  | false =>
    have e : some (env.set i (.val d)) = some env' := by cases d <;> exact e
    cases e
    by_cases hj : j = i
    · subst hj
      by_cases hi : j < env.length
      · rw [List.getElem?_set_self hi] at h; cases h; cases m
      · rw [set_ge _ _ _ hi] at h
        exact absurd (List.getElem?_eq_some_iff.mp h).1 hi
    · rw [List.getElem?_set_ne (Ne.symm hj)] at h
      rw [getD_set' _ _ _ _ _ hj] at q
      exact fun z => pr j sl p h m q (th p z)
  | true =>
    cases d with
    | lst ds =>
      cases e
      obtain ⟨p2, xs, rfl, _, hp, _⟩ := r
      by_cases hj : j = i
      · subst hj
        by_cases hi : j < σ.length
        · rw [getD_set _ _ _ _ _ hi, if_pos rfl] at q
          cases q
          rw [hp]; exact fun z => nomatch z
        · rw [set_ge σ _ _ hi, List.getD_eq_getElem?_getD, List.getElem?_eq_none (Nat.le_of_not_lt hi)] at q
          cases q
      · rw [List.getElem?_set_ne (Ne.symm hj)] at h
        rw [getD_set' _ _ _ _ _ hj] at q
        exact fun z => pr j sl p h m q (th p z)
    | _ => cases e
theorem Sit.setIt {G : Gh} {H Hs : Hp} {env env' : En} {u : St2} {σ : L2.St} {o : Bool} {i : Nat} {d : D} {v : V} (S : Sit Γ G0 H0 env u σ G H) (pr : Pres Hs env σ) (th : ∀ a, Hs a = none → H0 a = none) (r : ItR Γ G H Hs o d v) (e : stF o i d env = some env') : Sit Γ G0 H0 env' u (σ.set i (some v)) G H := by
  cases o with
  | false =>
    have e : some (env.set i (.val d)) = some env' := by cases d <;> exact e
    cases e
    exact S.set r
  | true =>
    cases d with
    | lst ds =>
      cases e
      obtain ⟨p, xs, rfl, h0, hp, nz, nc, r⟩ := r
      refine ⟨?_, S.eo.set' (fun q z e => ?_) S.er.len, S.k, S.g⟩
      · by_cases hi : i < env.length
        · exact S.er.setMine ⟨p, xs, rfl, hp, nz, nc, r⟩ hi fun j es h1 m1 _ h3 => pr j es p h1 m1 h3 h0
        · rw [set_ge _ _ _ hi, set_ge _ _ _ (by rw [← S.er.len]; exact hi)]
          exact S.er
      · cases e; exact th _ h0
    | _ => cases e
theorem st_par (c : Sxt Γ N GN K C W s w X) {oi oj : Bool} {i j : Nat} {ip jp tp p2 p : Pos} {k k2 : Nat} {a b : E} (hc : s.cold = true) (hij : decide (i ≠ j) = true) (hi : parB N s.sc i = true) (hj : parB N s.sc j = true) (ha : okE N GN K s a = true) (hb : okE N GN K s b = true)
    (hsw : swNone s.sc [.Name (nm N i) ip, .Name (nm N j) jp] (.Tuple [back N GN a, back N GN b] k2 p2) = false) (hn : decide (swNames s.sc [.Name (nm N i) ip, .Name (nm N j) jp] = [nm N i, nm N j]) = true) (hca : [back N GN a, back N GN b].all (constantsAlone 8) = false)
    (hoi : oi = true → a.isO = true) (hoj : oj = true → b.isO = true) :
    PS X (.Assign [.Tuple [.Name (nm N i) ip, .Name (nm N j) jp] k tp] (.Tuple [back N GN a, back N GN b] k2 p2) p) (rdS Γ W G0 H0 (ex C (.par oi oj i j ip jp tp k a b k2 p2 p))) := by
  obtain ⟨i1, i2⟩ := parB_ok c.c.hN c.c.sc hi
  obtain ⟨j1, j2⟩ := parB_ok c.c.hN c.c.sc hj
  have hst := nostar_back (N := N) (GN := GN) X.env (.cons a (.cons b .nil))
  have e1 := swStores_some (k := k) (tp := tp) (p2 := p2) (k2 := k2) (ts := [.Name (nm N i) ip, .Name (nm N j) jp]) c.kf hst (by rw [c.c.sc]; exact hsw) hca
  rw [c.c.sc, of_decide_eq_true hn] at e1
  refine PS.imp (ps_par (c.c.cold hc) c.sto.nd i1 j1 (of_decide_eq_true hij) i2 j2 (pa_cons (s_E a W s X c.c ha) (pa_cons (s_E b W s X c.c hb) pa_nil ((pl_back N GN b).st _ _)) ((pl_back N GN a).st _ _)) e1 swSole_tup) fun Z σ H ⟨env, G, t, S, q⟩ => ?_
  refine stI oi hoi S (show PostS Γ W G0 H0 G H (M.bind (ev C a env) (fun x => M.bind (ev C b env) fun y => M.bind (M.of (stF oi i x env)) fun env1 => M.bind (M.of (stF oj j y env1)) nxt) t) Z from q) fun x s1 v G1 H1 g1 S1 r1 q1 => ?_
  refine stI oj hoj S1 q1 fun y s2 u G2 H2 g2 S2 r2 q2 => ⟨v, u, rfl, ?_⟩
  cases f1 : stF oi i x env with
  | none => rw [f1] at q2; exact (show False from q2).elim
  | some env1 =>
    rw [f1] at q2
    have q2 : PostS Γ W G0 H0 G2 H2 (M.bind (M.of (stF oj j y env1)) nxt s2) Z := q2
    cases f2 : stF oj j y env1 with
    | none => rw [f2] at q2; exact (show False from q2).elim
    | some env2 =>
      rw [f2] at q2
      have S3 := S2.setIt S.pres S.g.there (r1.grow S1.k g2) f1
      have S4 := S3.setIt (S.pres.setIt g1.there r1 f1) (fun a h => S.g.there a (g1.there a h)) r2 f2
      exact nx_of (show PostS Γ W G0 H0 G2 H2 (nxt env2 s2) Z from q2) S4 (.refl _ _)
theorem st_par3 (c : Sxt Γ N GN K C W s w X) {oi oj ol : Bool} {i j l : Nat} {ip jp lp tp p2 p : Pos} {k k2 : Nat} {a b d : E} (hc : s.cold = true) (hij : decide (i ≠ j) = true) (hil : decide (i ≠ l) = true) (hjl : decide (j ≠ l) = true) (hi : parB N s.sc i = true) (hj : parB N s.sc j = true) (hl : parB N s.sc l = true) (ha : okE N GN K s a = true) (hb : okE N GN K s b = true) (hd : okE N GN K s d = true)
    (hsw : swNone s.sc [.Name (nm N i) ip, .Name (nm N j) jp, .Name (nm N l) lp] (.Tuple [back N GN a, back N GN b, back N GN d] k2 p2) = false) (hn : decide (swNames s.sc [.Name (nm N i) ip, .Name (nm N j) jp, .Name (nm N l) lp] = [nm N i, nm N j, nm N l]) = true) (hca : [back N GN a, back N GN b, back N GN d].all (constantsAlone 8) = false)
    (hoi : oi = true → a.isO = true) (hoj : oj = true → b.isO = true) (hol : ol = true → d.isO = true) :
    PS X (.Assign [.Tuple [.Name (nm N i) ip, .Name (nm N j) jp, .Name (nm N l) lp] k tp] (.Tuple [back N GN a, back N GN b, back N GN d] k2 p2) p) (rdS Γ W G0 H0 (ex C (.par3 oi oj ol i j l ip jp lp tp k a b d k2 p2 p))) := by
  obtain ⟨i1, i2⟩ := parB_ok c.c.hN c.c.sc hi
  obtain ⟨j1, j2⟩ := parB_ok c.c.hN c.c.sc hj
  obtain ⟨l1, l2⟩ := parB_ok c.c.hN c.c.sc hl
  have hst := nostar_back (N := N) (GN := GN) X.env (.cons a (.cons b (.cons d .nil)))
  have e1 := swStores_some (k := k) (tp := tp) (p2 := p2) (k2 := k2) (ts := [.Name (nm N i) ip, .Name (nm N j) jp, .Name (nm N l) lp]) c.kf hst (by rw [c.c.sc]; exact hsw) hca
  rw [c.c.sc, of_decide_eq_true hn] at e1
  refine PS.imp (ps_par3 (c.c.cold hc) c.sto.nd i1 j1 l1 (of_decide_eq_true hij) (of_decide_eq_true hil) (of_decide_eq_true hjl) i2 j2 l2 (pa_cons (s_E a W s X c.c ha) (pa_cons (s_E b W s X c.c hb) (pa_cons (s_E d W s X c.c hd) pa_nil ((pl_back N GN d).st _ _)) ((pl_back N GN b).st _ _)) ((pl_back N GN a).st _ _)) e1 swSole_tup) fun Z σ H ⟨env, G, t, S, q⟩ => ?_
  refine stI oi hoi S (show PostS Γ W G0 H0 G H (M.bind (ev C a env) (fun x => M.bind (ev C b env) fun y => M.bind (ev C d env) fun z => M.bind (M.of (stF oi i x env)) fun env1 => M.bind (M.of (stF oj j y env1)) fun env2 => M.bind (M.of (stF ol l z env2)) nxt) t) Z from q) fun x s1 v G1 H1 g1 S1 r1 q1 => ?_
  refine stI oj hoj S1 q1 fun y s2 u G2 H2 g2 S2 r2 q2 => ?_
  refine stI ol hol S2 q2 fun z s3 uu G3 H3 g3 S3 r3 q3 => ⟨v, u, uu, rfl, ?_⟩
  cases f1 : stF oi i x env with
  | none => rw [f1] at q3; exact (show False from q3).elim
  | some env1 =>
    rw [f1] at q3
    have q3 : PostS Γ W G0 H0 G3 H3 (M.bind (M.of (stF oj j y env1)) (fun env2 => M.bind (M.of (stF ol l z env2)) nxt) s3) Z := q3
    cases f2 : stF oj j y env1 with
    | none => rw [f2] at q3; exact (show False from q3).elim
    | some env2 =>
      rw [f2] at q3
      have q3 : PostS Γ W G0 H0 G3 H3 (M.bind (M.of (stF ol l z env2)) nxt s3) Z := q3
      cases f3 : stF ol l z env2 with
      | none => rw [f3] at q3; exact (show False from q3).elim
      | some env3 =>
        rw [f3] at q3
        have p1 := S.pres.setIt g1.there r1 f1
        have p2 := p1.setIt g2.there r2 f2
        have S4 := S3.setIt S.pres S.g.there ((r1.grow S1.k g2).grow S2.k g3) f1
        have S5 := S4.setIt p1 (fun a h => S.g.there a (g1.there a h)) (r2.grow S2.k g3) f2
        have S6 := S5.setIt p2 (fun a h => S.g.there a (g1.there a (g2.there a h))) r3 f3
        exact nx_of (show PostS Γ W G0 H0 G3 H3 (nxt env3 s3) Z from q3) S6 (.refl _ _)
theorem pg_nm (c : Sxt Γ N GN K C W s w X) {i : Nat} (ip : Pos) (h : w.contains i = true) : PG X (.Name (nm N i) ip) (gName i) := by
  obtain ⟨x, hx, hl, hf⟩ := c.sto.at_ i (by simpa using h)
  have e1 : nm N i = x := nm_of (by rw [← c.c.hN]; exact hx)
  rw [e1]
  exact pg_name (pos := ip) c.sto.nd hx hl hf
theorem st_parT (c : Sxt Γ N GN K C W s w X) {oi oj : Bool} {i j : Nat} {ip jp tp p2 p : Pos} {k k2 : Nat} {a b : E} (hi : w.contains i = true) (hj : w.contains j = true) (ha : okE N GN K s a = true) (hb : okE N GN K s b = true)
    (hsw : swNone s.sc [.Name (nm N i) ip, .Name (nm N j) jp] (.Tuple [back N GN a, back N GN b] k2 p2) = true)
    (hoi : oi = true → a.isO = true) (hoj : oj = true → b.isO = true) :
    PS X (.Assign [.Tuple [.Name (nm N i) ip, .Name (nm N j) jp] k tp] (.Tuple [back N GN a, back N GN b] k2 p2) p) (rdS Γ W G0 H0 (ex C (.par oi oj i j ip jp tp k a b k2 p2 p))) := by
  have hst : ∀ vs k p, Expr.Tuple [back N GN a, back N GN b] k2 p2 = .Tuple vs k p → (vs.any fun | .Starred .. => true | _ => false) = false := fun vs _ _ e => by
    cases e; exact nostar_back (N := N) (GN := GN) X.env (.cons a (.cons b .nil))
  refine PS.imp (ps_asg (pe_tup (x1 := k2) (pos := p2) (pa_cons (s_E a W s X c.c ha) (pa_cons (s_E b W s X c.c hb) pa_nil ((pl_back N GN b).st _ _)) ((pl_back N GN a).st _ _)))
    (pg_tupM (k := k) (pos := tp) (n := 2) c.sto.md (pgs_cons (pg_nm c ip hi) (pgs_cons (pg_nm c jp hj) pgs_nil)) rfl rfl) swSole_tup (swStores_none hst (by rw [c.c.sc]; exact hsw)) rfl) fun Z σ H ⟨env, G, t, S, q⟩ => ?_
  refine stI oi hoi S (show PostS Γ W G0 H0 G H (M.bind (ev C a env) (fun x => M.bind (ev C b env) fun y => M.bind (M.of (stF oi i x env)) fun env1 => M.bind (M.of (stF oj j y env1)) nxt) t) Z from q) fun x s1 v G1 H1 g1 S1 r1 q1 => ?_
  refine stI oj hoj S1 q1 fun y s2 u G2 H2 g2 S2 r2 q2 => ⟨by show 2 ≤ sizeLine; rw [sizeLine_eq]; decide, fun T hT => ⟨T, [v, u], rfl, SqT.of upd_same, rfl, v, [u], rfl, u, [], rfl, rfl, ?_⟩⟩
  cases f1 : stF oi i x env with
  | none => rw [f1] at q2; exact (show False from q2).elim
  | some env1 =>
    rw [f1] at q2
    have q2 : PostS Γ W G0 H0 G2 H2 (M.bind (M.of (stF oj j y env1)) nxt s2) Z := q2
    cases f2 : stF oj j y env1 with
    | none => rw [f2] at q2; exact (show False from q2).elim
    | some env2 =>
      rw [f2] at q2
      have S3 := S2.setIt S.pres S.g.there (r1.grow S1.k g2) f1
      have S4 := S3.setIt (S.pres.setIt g1.there r1 f1) (fun a h => S.g.there a (g1.there a h)) r2 f2
      exact nx_of (show PostS Γ W G0 H0 G2 H2 (nxt env2 s2) Z from q2) (S4.grow (.upd G2 _ hT) (S4.k.upd _ hT)) (.upd _ hT)
theorem st_par3T (c : Sxt Γ N GN K C W s w X) {oi oj ol : Bool} {i j l : Nat} {ip jp lp tp p2 p : Pos} {k k2 : Nat} {a b d : E} (hi : w.contains i = true) (hj : w.contains j = true) (hl : w.contains l = true) (ha : okE N GN K s a = true) (hb : okE N GN K s b = true) (hd : okE N GN K s d = true)
    (hsw : swNone s.sc [.Name (nm N i) ip, .Name (nm N j) jp, .Name (nm N l) lp] (.Tuple [back N GN a, back N GN b, back N GN d] k2 p2) = true)
    (hoi : oi = true → a.isO = true) (hoj : oj = true → b.isO = true) (hol : ol = true → d.isO = true) :
    PS X (.Assign [.Tuple [.Name (nm N i) ip, .Name (nm N j) jp, .Name (nm N l) lp] k tp] (.Tuple [back N GN a, back N GN b, back N GN d] k2 p2) p) (rdS Γ W G0 H0 (ex C (.par3 oi oj ol i j l ip jp lp tp k a b d k2 p2 p))) := by
  have hst : ∀ vs k p, Expr.Tuple [back N GN a, back N GN b, back N GN d] k2 p2 = .Tuple vs k p → (vs.any fun | .Starred .. => true | _ => false) = false := fun vs _ _ e => by
    cases e; exact nostar_back (N := N) (GN := GN) X.env (.cons a (.cons b (.cons d .nil)))
  refine PS.imp (ps_asg (pe_tup (x1 := k2) (pos := p2) (pa_cons (s_E a W s X c.c ha) (pa_cons (s_E b W s X c.c hb) (pa_cons (s_E d W s X c.c hd) pa_nil ((pl_back N GN d).st _ _)) ((pl_back N GN b).st _ _)) ((pl_back N GN a).st _ _)))
    (pg_tupM (k := k) (pos := tp) (n := 3) c.sto.md (pgs_cons (pg_nm c ip hi) (pgs_cons (pg_nm c jp hj) (pgs_cons (pg_nm c lp hl) pgs_nil))) rfl rfl) swSole_tup (swStores_none hst (by rw [c.c.sc]; exact hsw)) rfl) fun Z σ H ⟨env, G, t, S, q⟩ => ?_
  refine stI oi hoi S (show PostS Γ W G0 H0 G H (M.bind (ev C a env) (fun x => M.bind (ev C b env) fun y => M.bind (ev C d env) fun z => M.bind (M.of (stF oi i x env)) fun env1 => M.bind (M.of (stF oj j y env1)) fun env2 => M.bind (M.of (stF ol l z env2)) nxt) t) Z from q) fun x s1 v G1 H1 g1 S1 r1 q1 => ?_
  refine stI oj hoj S1 q1 fun y s2 u G2 H2 g2 S2 r2 q2 => ?_
  refine stI ol hol S2 q2 fun z s3 uu G3 H3 g3 S3 r3 q3 => ⟨by show 3 ≤ sizeLine; rw [sizeLine_eq]; decide, fun T hT => ⟨T, [v, u, uu], rfl, SqT.of upd_same, rfl, v, [u, uu], rfl, u, [uu], rfl, uu, [], rfl, rfl, ?_⟩⟩
  cases f1 : stF oi i x env with
  | none => rw [f1] at q3; exact (show False from q3).elim
  | some env1 =>
    rw [f1] at q3
    have q3 : PostS Γ W G0 H0 G3 H3 (M.bind (M.of (stF oj j y env1)) (fun env2 => M.bind (M.of (stF ol l z env2)) nxt) s3) Z := q3
    cases f2 : stF oj j y env1 with
    | none => rw [f2] at q3; exact (show False from q3).elim
    | some env2 =>
      rw [f2] at q3
      have q3 : PostS Γ W G0 H0 G3 H3 (M.bind (M.of (stF ol l z env2)) nxt s3) Z := q3
      cases f3 : stF ol l z env2 with
      | none => rw [f3] at q3; exact (show False from q3).elim
      | some env3 =>
        rw [f3] at q3
        have p1 := S.pres.setIt g1.there r1 f1
        have p2 := p1.setIt g2.there r2 f2
        have S4 := S3.setIt S.pres S.g.there ((r1.grow S1.k g2).grow S2.k g3) f1
        have S5 := S4.setIt p1 (fun a h => S.g.there a (g1.there a h)) (r2.grow S2.k g3) f2
        have S6 := S5.setIt p2 (fun a h => S.g.there a (g1.there a (g2.there a h))) r3 f3
        exact nx_of (show PostS Γ W G0 H0 G3 H3 (nxt env3 s3) Z from q3) (S6.grow (.upd G3 _ hT) (S6.k.upd _ hT)) (.upd _ hT)
theorem st_dnew (c : Sxt Γ N GN K C W s w X) {i : Nat} {ip p2 p : Pos} (hi : w.contains i = true) : PS X (.Assign [.Name (nm N i) ip] (.Dict [] [] p2) p) (rdS Γ W G0 H0 (ex C (.dnew i ip p2 p))) := by
  obtain ⟨x, hx, hl, hf⟩ := c.sto.at_ i (by simpa using hi)
  have e1 : nm N i = x := nm_of (by rw [← c.c.hN]; exact hx)
  rw [e1]
  refine PS.imp (ps_set c.sto.nd hx hl pe_dnewT rfl hf) fun Z σ H ⟨env, G, t, S, q⟩ => fun a ha => ?_
  exact nx_of (show PostS Γ W G0 H0 _ _ (nxt (env.set i (.dic [])) t) Z from q) (S.setMine (.upd G _ ha) (S.k.upd _ ha) ha ⟨a, [], rfl, upd_same, .nil, List.nodup_nil⟩) ((Grow.upd G _ ha).toZ S.k)
theorem st_dnew1 (c : Sxt Γ N GN K C W s w X) {i : Nat} {ip tp p2 p : Pos} {es : Es} {k : Nat} {e : E} (hi : w.contains i = true) (hs : okEs N GN K s es = true) (he : okE N GN K s e = true) : PS X (.Assign [.Name (nm N i) ip] (.Dict [some (.Tuple (backs N GN es) k tp)] [back N GN e] p2) p) (rdS Γ W G0 H0 (ex C (.dnew1 i ip es k tp e p2 p))) := by
  obtain ⟨x, hx, hl, hf⟩ := c.sto.at_ i (by simpa using hi)
  have e1 : nm N i = x := nm_of (by rw [← c.c.hN]; exact hx)
  rw [e1]
  refine PS.imp (ps_set c.sto.nd hx hl (pe_dispT c.c.hu (pe_tup (x1 := k) (pos := tp) (s_Es es W s X c.c hs)) (s_E e W s X c.c he)) rfl hf) fun Z σ H ⟨env, G, t, S, q⟩ => fun a ha => ?_
  have g0 := Grow.upd G (.dT []) ha
  have S0 := S.grow g0 (S.k.upd (.dT []) ha)
  refine stA S0 (show PostS Γ W G0 H0 G (upd H a (.dT [])) (M.bind (evs C es env) (fun l => match D.keyOf l with
    | some k => if sizeOk l.length then M.bind (ev C e env) fun x => nxt (env.set i (.dic [(k, x)])) else M.no
    | none => M.no) t) Z from PostS.mono (g0.toZ S.k) q) fun ds s1 vs G1 H1 g1 S1 r1 q1 => ?_
  cases e2 : D.keyOf ds with
  | none => rw [e2] at q1; exact (show False from q1).elim
  | some key =>
    rw [e2] at q1
    have q1 : PostS Γ W G0 H0 G1 H1 ((if sizeOk ds.length = true then M.bind (ev C e env) (fun x => nxt (env.set i (.dic [(key, x)]))) else M.no) s1) Z := q1
    by_cases hz : sizeOk ds.length = true
    · rw [if_pos hz] at q1
      refine ⟨by rw [r1.length]; exact sizeOk_of hz, fun pt hp => ?_⟩
      have g2 := Grow.upd G1 (.tup vs) hp
      have k2 := S1.k.upd (.tup vs) hp
      have S2 := S1.grow g2 k2
      refine stE S2 (PostS.mono (g2.toZ S1.k) q1) fun d s2 v G3 H3 g3 S3 r3 q3 => ?_
      have hpt : H3 pt = some (.tup vs) := g3.keep pt _ upd_same (k2.nc upd_same fun _ z => nomatch z) (fun _ z => nomatch z)
      have h1 : H1 a = some (.dT []) := g1.keep a _ upd_same (S0.k.nc upd_same fun _ z => nomatch z) (fun _ z => nomatch z)
      have h2 : (upd H1 pt (.tup vs)) a = some (.dT []) := by rw [upd_ne (fun z => by rw [z, hp] at h1; cases h1)]; exact h1
      have h3 : H3 a = some (.dT []) := g3.keep a _ h2 (k2.nc h2 fun _ z => nomatch z) (fun _ z => nomatch z)
      refine ⟨h3, pt, key, rfl, by rw [hpt, keyOf_kv r1 e2], ?_⟩
      have gg : Grow G H G3 H3 := ((g0.trans g1).trans g2).trans g3
      have k4 : SOk Γ G3 (upd H3 a (.dT [(key, v)])) s2 := S3.k.mutD h3
      have g4 : Grow G H G3 (upd H3 a (.dT [(key, v)])) := gg.mut _ ha
      refine nx_of (show PostS Γ W G0 H0 G3 H3 (nxt (env.set i (.dic [(key, d)])) s2) Z from q3) (S.setMine g4 k4 ha ⟨a, [(key, v)], rfl, upd_same, .cons (r3.mutD h3) .nil, by simp⟩) (.mutD h3)
    · rw [if_neg hz] at q1; exact (show False from q1).elim
theorem st_dput (c : Sxt Γ N GN K C W s w X) {i : Nat} {ip tp sp p : Pos} {es : Es} {k : Nat} {e : E} (hi : s.vis.contains i = true) (hs : okEs N GN K s es = true) (he : okE N GN K s e = true) (hn : e.noLc = true) :
    PS X (.Assign [.Subscript (.Name (nm N i) ip) (.Tuple (backs N GN es) k tp) sp] (back N GN e) p) (rdS Γ W G0 H0 (ex C (.dput i ip es k tp sp e p))) := by
  obtain ⟨h1, h2, h3, h4⟩ := c.c.var hi
  have hu := c.c.hu
  refine PS.imp (ps_dput (by omega) (pe_var (pos := ip) h1 h2 h3 h4) (pe_tup (x1 := k) (pos := tp) (s_Es es W s X c.c hs)) (s_E e W s X c.c he) (sw_back N GN _ _ _ e hn)) fun Z σ H ⟨env, G, t, S, q⟩ =>
    stE S (show PostS Γ W G0 H0 G H (M.bind (ev C e env) (fun x => match env.dic i with
    | some kvs => M.bind (evs C es env) fun l => match D.keyOf l with
      | some k => if sizeOk l.length then (if sizeOk (kvs.length + 1) then nxt (env.set i (.dic (dPut kvs k x))) else M.no) else M.no
      | none => M.no
    | none => M.no) t) Z from q) fun d s1 v G1 H1 g1 S1 r q1 => ?_
  cases e1 : env.dic i with
  | none => rw [e1] at q1; exact (show False from q1).elim
  | some kvs =>
    rw [e1] at q1
    obtain ⟨a, xs, f1, f2, f3, f4, f5⟩ := S1.er.dic e1
    refine ⟨.ref a, f1, ?_⟩
    refine stA S1 q1 fun ds s2 vs G2 H2 g2 S2 r2 q2 => ?_
    cases e2 : D.keyOf ds with
    | none => rw [e2] at q2; exact (show False from q2).elim
    | some key =>
      rw [e2] at q2
      have q2 : PostS Γ W G0 H0 G2 H2 ((if sizeOk ds.length = true then (if sizeOk (kvs.length + 1) = true then nxt (env.set i (.dic (dPut kvs key d))) else M.no) else M.no) s2) Z := q2
      by_cases hz : sizeOk ds.length = true
      · rw [if_pos hz] at q2
        by_cases hz2 : sizeOk (kvs.length + 1) = true
        · rw [if_pos hz2] at q2
          refine ⟨by rw [r2.length]; exact sizeOk_of hz, fun pt hp => ?_⟩
          have g3 := Grow.upd G2 (.tup vs) hp
          have k3 := S2.k.upd (.tup vs) hp
          have S3 := S2.grow g3 k3
          obtain ⟨xs1, m1, m2, m3⟩ := dic_at e1 f1 S3.er
          have rv : Rp Γ G2 (upd H2 pt (.tup vs)) v d := (r.grow S1.k g2).grow S2.k g3
          have hl := sizeOk_of hz2
          refine ⟨a, _, rfl, DPut.t (k := key) (v := v) m1 (by rw [upd_same, keyOf_kv r2 e2]) (by rw [m2.len]; omega), ?_⟩
          have h5 : Rks Γ G2 (upd H2 pt (.tup vs)) (putK xs1 key v) (dPut kvs key d) := m2.put rv key m3
          exact nx_of (show PostS Γ W G0 H0 _ _ (nxt (env.set i (.dic (dPut kvs key d))) s2) Z from PostS.mono (g3.toZ S2.k) q2) (S3.mutD f5 f1 m1 h5 (dPut_nd key d kvs m3)) (.mutD m1)
        · rw [if_neg hz2] at q2; exact (show False from q2).elim
      · rw [if_neg hz] at q2; exact (show False from q2).elim
end
end Co
set_option Elab.async false
set_option linter.all false
set_option maxRecDepth 100000
set_option maxHeartbeats 4000000
namespace Co
open PySem PySem.Spec PyProof.Rows L2 HotX L2H
section
variable {Γ : Mo} {N GN : List Str} {K : Nat → GK} {C : Cl} {W : WX} {s : Sc} {w : List Nat} {X : Cx} {G0 : Gh} {H0 : Hp}
theorem swSole_sub {o i : Expr} {sp : Pos} {e : Expr} {l : Nat} {env : Env} : swapsWithSole [.Subscript o i sp] e l env = pure false := by
  cases e <;> rfl
theorem swStores_sub {o i : Expr} {sp : Pos} {e : Expr} {env : Env} : swappedStores [.Subscript o i sp] e env = pure none := by
  cases e <;> rfl
theorem st_sub (c : Sxt Γ N GN K C W s w X) {i : Nat} {ip sp p : Pos} {x e : E} (hi : s.vis.contains i = true) (hx : okE N GN K s x = true) (he : okE N GN K s e = true) :
    PS X (.Assign [.Subscript (.Name (nm N i) ip) (back N GN x) sp] (back N GN e) p) (tAsg (rd Γ W e.isO (ev C e)) (gSub (tVar i) (rd Γ W x.isO (ev C x)) rSetL)) := by
  obtain ⟨h1, h2, h3, h4⟩ := c.c.var hi
  exact ps_asg (s_E e W s X c.c he) (pg_sub (pe_var h1 h2 h3 h4) (s_E x W s X c.c hx) set_list (fun v => (pl_back N GN x).sb _ _ _ _)) swSole_sub swStores_sub rfl
theorem st_setO (c : Sxt Γ N GN K C W s w X) {i : Nat} {ip sp p : Pos} {x e : E} (hi : s.vis.contains i = true) (hx : okE N GN K s x = true) (he : okE N GN K s e = true) :
    PS X (.Assign [.Subscript (.Name (nm N i) ip) (back N GN x) sp] (back N GN e) p) (rdS Γ W G0 H0 (ex C (.setO i ip x sp e p))) :=
  PS.imp (st_sub c hi hx he) fun Z σ H ⟨env, G, t, S, q⟩ =>
    stE S (show PostS Γ W G0 H0 G H (M.bind (ev C e env) (fun d => match env.own i with
    | some l => M.bind (ev C x env) fun k => match k with
      | .int k => match ixN l.length k with
        | some j => nxt (env.set i (.own (l.set j d)))
        | none => M.no
      | _ => M.no
    | none => M.no) t) Z from q) fun d s1 v G1 H1 g1 S1 r q1 => by
      cases e1 : env.own i with
      | none => rw [e1] at q1; exact (show False from q1).elim
      | some l =>
        rw [e1] at q1
        obtain ⟨a, xs, f1, f2, f3, f4, f5, f6⟩ := S1.er.own e1
        refine ⟨.ref a, f1, ?_⟩
        refine stE S1 q1 fun k s2 u G2 H2 g2 S2 r2 q2 => ?_
        obtain ⟨a', xs', f1', f2, f3, f4, f5, f6⟩ := S2.er.own e1
        rw [f1] at f1'
        cases f1'
        cases r2 with
        | int n =>
          have q2 : PostS Γ W G0 H0 G2 H2 ((match ixN l.length n with | some j => nxt (env.set i (.own (l.set j d))) | none => M.no) s2) Z := q2
          cases e2 : ixN l.length n with
          | none => rw [e2] at q2; exact (show False from q2).elim
          | some j =>
            rw [e2] at q2
            refine ⟨a, xs', n, j, rfl, rfl, f2, by rw [f5.length]; exact e2, ?_⟩
            have r' : Rp Γ G2 H2 v d := r.grow S1.k g2
            exact nx_of (show PostS Γ W G0 H0 G2 H2 (nxt (env.set i (.own (l.set j d))) s2) Z from q2) (S2.mut f6 f1 f2 f3 f4 (f5.set r' j)) (.mut f2 f3)
        | _ => exact (show False from q2).elim
theorem st_setC (c : Sxt Γ N GN K C W s w X) {i : Nat} {ip sp p : Pos} {x e : E} (hi : s.vis.contains i = true) (hx : okE N GN K s x = true) (he : okE N GN K s e = true) :
    PS X (.Assign [.Subscript (.Name (nm N i) ip) (back N GN x) sp] (back N GN e) p) (rdS Γ W G0 H0 (ex C (.setC i ip x sp e p))) :=
  PS.imp (st_sub c hi hx he) fun Z σ H ⟨env, G, t, S, q⟩ =>
    stE S (show PostS Γ W G0 H0 G H (M.bind (ev C e env) (fun d => match env.get i with
    | some .cup => M.bind (ev C x env) fun k => match k, d with
      | .int k, .int n => fun s => match s with
        | some (x, y) => if k = 0 then some (.ok (.nx, env), some (n, y)) else if k = 1 then some (.ok (.nx, env), some (x, n)) else none
        | none => none
      | _, _ => M.no
    | _ => M.no) t) Z from q) fun d s1 v G1 H1 g1 S1 r q1 => by
      cases e1 : env.get i with
      | none => rw [e1] at q1; exact (show False from q1).elim
      | some dc =>
        rw [e1] at q1
        obtain ⟨vc, f1, f2⟩ := S1.er.get e1
        cases dc with
        | cup =>
          refine ⟨vc, f1, ?_⟩
          refine stE S1 q1 fun k s2 u G2 H2 g2 S2 r2 q2 => ?_
          have f3 := f2.grow S1.k g2
          cases f3 with
          | @cup a hc =>
            cases r2 with
            | int n =>
              cases r with
              | int m =>
                cases s2 with
                | none => exact (show False from q2).elim
                | some z =>
                  obtain ⟨x', y'⟩ := z
                  have q2 : PostS Γ W G0 H0 G2 H2 (if n = 0 then some (.ok (.nx, env), some (m, y')) else if n = 1 then some (.ok (.nx, env), some (x', m)) else none) Z := q2
                  obtain ⟨a', h1, h2, h3⟩ := S2.k.cup
                  rw [hc] at h1; cases h1
                  by_cases n0 : n = 0
                  · subst n0
                    rw [if_pos rfl] at q2
                    exact ⟨a, _, 0, 0, rfl, rfl, h2, rfl, nx_of (show PostS Γ W G0 H0 G2 H2 (nxt env (some (m, y'))) Z from q2) (S2.cup hc) (.mut h2 h3)⟩
                  · rw [if_neg n0] at q2
                    by_cases n1 : n = 1
                    · subst n1
                      rw [if_pos rfl] at q2
                      exact ⟨a, _, 1, 1, rfl, rfl, h2, rfl, nx_of (show PostS Γ W G0 H0 G2 H2 (nxt env (some (x', m))) Z from q2) (S2.cup hc) (.mut h2 h3)⟩
                    · rw [if_neg n1] at q2
                      exact (show False from q2).elim
              | _ => exact (show False from q2).elim
            | _ => exact (show False from q2).elim
        | _ => exact (show False from q1).elim
theorem st_app (c : Sxt Γ N GN K C W s w X) {i : Nat} {ip ap cp p : Pos} {e : E} (hi : s.vis.contains i = true) (he : okE N GN K s e = true) (hl : (ap.endLine == cp.line) = true) :
    PS X (.Expr (.Call (.Attribute (.Name (nm N i) ip) (Str.ofString "append") ap) [back N GN e] [] cp) p) (rdS Γ W G0 H0 (ex C (.app i ip ap cp e p))) := by
  obtain ⟨h1, h2, h3, h4⟩ := c.c.var hi
  have hs : starEach [back N GN e] X.env = [(false, eval (back N GN e) X.env)] := (pl_back N GN e).st [] X.env
  refine PS.imp (ps_expr (pe_bm PySem.F.plainAttrs_list PySem.F.slot_list_append PySem.F.type_list_append mt_append (pe_var (pos := ip) h1 h2 h3 h4) (pa_cons (s_E e W s X c.c he) pa_nil hs) rfl (by rw [hs]; rfl) hl hs rfl) rfl) fun Z σ H ⟨env, G, t, S, q⟩ => ?_
  have q : PostS Γ W G0 H0 G H ((match env.own i with
    | some l => M.bind (ev C e env) fun d => if sizeOk (l.length + 1) then nxt (env.set i (.own (l ++ [d]))) else M.no
    | none => M.no) t) Z := q
  cases e1 : env.own i with
  | none => rw [e1] at q; exact (show False from q).elim
  | some l =>
    rw [e1] at q
    obtain ⟨a, xs, f1, f2, f3, f4, f5, f6⟩ := S.er.own e1
    refine ⟨.ref a, f1, .inl ⟨rfl, xs, SqL.of f2⟩, ?_⟩
    refine stE S q fun d s1 v G1 H1 g1 S1 r q1 => ?_
    obtain ⟨a', xs', f1', f2, f3, f4, f5, f6⟩ := S1.er.own e1
    rw [f1] at f1'
    cases f1'
    by_cases hz : sizeOk (l.length + 1) = true
    · rw [if_pos hz] at q1
      exact ⟨a, xs', v, rfl, rfl, f2, by have := sizeOk_of hz; rw [f5.length]; omega, nx_of q1 (S1.mut f6 f1 f2 f3 f4 (f5.append (.cons r .nil))) (.mut f2 f3)⟩
    · rw [if_neg hz] at q1; exact (show False from q1).elim
theorem st_pop (c : Sxt Γ N GN K C W s w X) {i : Nat} {ip ap cp p : Pos} (hi : s.vis.contains i = true) (hl : (ap.endLine == cp.line) = true) :
    PS X (.Expr (.Call (.Attribute (.Name (nm N i) ip) (Str.ofString "pop") ap) [] [] cp) p) (rdS Γ W G0 H0 (ex C (.pop i ip ap cp p))) := by
  obtain ⟨h1, h2, h3, h4⟩ := c.c.var hi
  refine PS.imp (ps_expr (pe_bm0 PySem.F.plainAttrs_list PySem.F.slot_list_pop PySem.F.type_list_pop mt_pop (pe_var (pos := ip) h1 h2 h3 h4) rfl hl) rfl) fun Z σ H ⟨env, G, t, S, q⟩ => ?_
  have q : PostS Γ W G0 H0 G H ((match env.own i with
    | some (d :: l) => nxt (env.set i (.own (d :: l).dropLast))
    | _ => M.no) t) Z := q
  cases e1 : env.own i with
  | none => rw [e1] at q; exact (show False from q).elim
  | some l =>
    rw [e1] at q
    cases l with
    | nil => exact (show False from q).elim
    | cons d l =>
      obtain ⟨a, xs, f1, f2, f3, f4, f5, f6⟩ := S.er.own e1
      have hlen := f5.length
      have hx : xs[xs.length - 1]? = some (xs[xs.length - 1]'(by rw [hlen]; simp)) := List.getElem?_eq_getElem _
      exact ⟨.ref a, f1, .inl ⟨rfl, xs, SqL.of f2⟩, a, xs, _, rfl, rfl, f2, hx, nx_of (show PostS Γ W G0 H0 G H (nxt (env.set i (.own (d :: l).dropLast)) t) Z from q) (S.mut f6 f1 f2 f3 f4 f5.dropLast) (.mut f2 f3)⟩
theorem st_expr (c : Sxt Γ N GN K C W s w X) {e : E} {p : Pos} (he : okE N GN K s e = true) (hn : e.noLc = true) : PS X (.Expr (back N GN e) p) (rdS Γ W G0 H0 (ex C (.expr e p))) :=
  PS.imp (ps_expr (s_E e W s X c.c he) (sw_back N GN _ _ _ e hn)) fun Z σ H ⟨env, G, t, S, q⟩ =>
    stE S (show PostS Γ W G0 H0 G H (M.bind (ev C e env) (fun _ => nxt env) t) Z from q) fun d s1 v G1 H1 g1 S1 r q1 => nx_of q1 S1 (.refl _ _)
theorem st_ret (c : Sxt Γ N GN K C W s w X) {e : E} {p : Pos} (he : okE N GN K s e = true) : PS X (.Return (some (back N GN e)) p) (rdS Γ W G0 H0 (ex C (.ret e p))) :=
  PS.imp (ps_ret (s_E e W s X c.c he)) fun Z σ H ⟨env, G, t, S, q⟩ =>
    stE S (show PostS Γ W G0 H0 G H (M.bind (ev C e env) (fun x => M.pure (.ret x, env)) t) Z from q) fun d s1 v G1 H1 g1 S1 r q1 =>
      (show ∀ v G' H', Grow G0 H0 G' H' → SOk Γ G' H' s1 → Rp Γ G' H' v d → Z.rt v H' from q1) v G1 H1 S1.g S1.k r
theorem st_retN {p : Pos} : PS X (.Return none p) (rdS Γ W G0 H0 (ex C (.retN p))) :=
  PS.imp ps_retN fun Z σ H ⟨env, G, t, S, q⟩ => (show ∀ v G' H', Grow G0 H0 G' H' → SOk Γ G' H' t → Rp Γ G' H' v .non → Z.rt v H' from q) .non G H S.g S.k .non
theorem st_pas {p : Pos} : PS X (.Pass p) (rdS Γ W G0 H0 (ex C (.pas p))) :=
  PS.imp ps_pass fun Z σ H ⟨env, G, t, S, q⟩ => nx_of (show PostS Γ W G0 H0 G H (nxt env t) Z from q) S (.refl _ _)
theorem st_brk {p : Pos} : PS X (.Break p) (rdS Γ W G0 H0 (ex C (.brk p))) :=
  PS.imp ps_break fun Z σ H ⟨env, G, t, S, q⟩ => (show ∀ σ G' H', ER Γ G' H' env σ → EO H0 env σ → Grow G0 H0 G' H' → SOk Γ G' H' t → GrowZ G H G' H' → Z.bk σ H' from q) σ G H S.er S.eo S.g S.k (.refl _ _)
theorem st_cnt {p : Pos} : PS X (.Continue p) (rdS Γ W G0 H0 (ex C (.cnt p))) :=
  PS.imp ps_continue fun Z σ H ⟨env, G, t, S, q⟩ => (show ∀ σ G' H', ER Γ G' H' env σ → EO H0 env σ → Grow G0 H0 G' H' → SOk Γ G' H' t → GrowZ G H G' H' → Z.ct σ H' from q) σ G H S.er S.eo S.g S.k (.refl _ _)
theorem st_iff (c : Sxt Γ N GN K C W s w X) {e : E} {a b : Ss} {p : Pos} (he : okE N GN K s e = true) (ha : PSs X (backSs N GN a) (rdS Γ W G0 H0 (exs C a))) (hb : PSs X (backSs N GN b) (rdS Γ W G0 H0 (exs C b))) :
    PS X (.If (back N GN e) (backSs N GN a) (backSs N GN b) p) (rdS Γ W G0 H0 (ex C (.iff e a b p))) :=
  PS.imp (ps_if (s_T e W s X c.c he) ha hb) fun Z σ H ⟨env, G, t, S, q⟩ =>
    stT S (show PostS Γ W G0 H0 G H (M.bind (ev C e env) (fun x => match x with | .bl true => exs C a env | .bl false => exs C b env | _ => M.no) t) Z from q)
      (fun d s1 q1 => by cases d <;> first | exact ⟨_, rfl⟩ | exact (show False from q1).elim)
      fun b' s1 G1 H1 g1 S1 q1 => by
        cases b' with
        | true => exact if_t ⟨env, G1, s1, S1, q1⟩
        | false => rw [if_neg (by decide)]; exact ⟨env, G1, s1, S1, q1⟩
theorem st_seq {Z : Ends} {σ : L2.St} {H : Hp} {m k : En → M (Fl × En)} (h : rdS Γ W G0 H0 (fun env => M.bind (m env) fun r => match r with | (.nx, env2) => k env2 | r => M.pure r) Z σ H) : rdS Γ W G0 H0 m { Z with nx := rdS Γ W G0 H0 k Z } σ H := by
  obtain ⟨env, G, t, S, q⟩ := h
  refine ⟨env, G, t, S, ?_⟩
  have q : PostS Γ W G0 H0 G H (M.bind (m env) (fun r => match r with | (.nx, env2) => k env2 | r => M.pure r) t) Z := q
  unfold M.bind at q
  cases e : m env t with
  | none => rw [e] at q; exact q
  | some z =>
    obtain ⟨r, s'⟩ := z
    rw [e] at q
    cases r with
    | ex g n => exact q
    | ok a =>
      obtain ⟨f, env'⟩ := a
      cases f with
      | nx => exact fun σ G' H' er eo g k' gz => ⟨env', G', s', ⟨er, eo, k', g⟩, PostS.mono gz q⟩
      | brk => exact q
      | cnt => exact q
      | ret d => exact q
theorem st_whl (c : Sxt Γ N GN K C W s w X) {e : E} {b : Ss} {p : Pos} (he : okE N GN K s e = true) (hb : PSs X (backSs N GN b) (rdS Γ W G0 H0 (exs C b))) :
    PS X (.While (back N GN e) (backSs N GN b) [] p) (rdS Γ W G0 H0 (ex C (.whl e b p))) := by
  refine PS.imp (ps_while c.own (s_T e W s X c.c he) hb) fun Z σ H h => ?_
  refine ⟨fun n σ H => rdS Γ W G0 H0 (whlL (ev C e) (exs C b) n) Z σ H, ⟨C.wf, h⟩, fun n σ H h => ?_⟩
  obtain ⟨env, G, t, S, q⟩ := h
  cases n with
  | zero => exact (show False from q).elim
  | succ n =>
    refine stT S (show PostS Γ W G0 H0 G H (M.bind (ev C e env) (fun x => match x with
      | .bl false => M.pure (.nx, env)
      | .bl true => M.bind (exs C b env) fun r => match r with
        | (.nx, env2) => whlL (ev C e) (exs C b) n env2
        | (.cnt, env2) => whlL (ev C e) (exs C b) n env2
        | (.brk, env2) => M.pure (.nx, env2)
        | (.ret d, env2) => M.pure (.ret d, env2)
      | _ => M.no) t) Z from q)
      (fun d s1 q1 => by cases d <;> first | exact ⟨_, rfl⟩ | exact (show False from q1).elim)
      fun b' s1 G1 H1 g1 S1 q1 => ?_
    cases b' with
    | false => rw [if_neg (by decide)]; exact nx_of (show PostS Γ W G0 H0 G1 H1 (nxt env s1) Z from q1) S1 (.refl _ _)
    | true =>
      refine if_t ⟨rdS Γ W G0 H0 (whlL (ev C e) (exs C b) n) Z, fun σ' H' h' => ⟨n, Nat.lt_succ_self n, h'⟩, env, G1, s1, S1, ?_⟩
      have q1 : PostS Γ W G0 H0 G1 H1 (M.bind (exs C b env) (fun r => match r with
        | (.nx, env2) => whlL (ev C e) (exs C b) n env2
        | (.cnt, env2) => whlL (ev C e) (exs C b) n env2
        | (.brk, env2) => M.pure (.nx, env2)
        | (.ret d, env2) => M.pure (.ret d, env2)) s1) Z := q1
      unfold M.bind at q1
      cases e2 : exs C b env s1 with
      | none => rw [e2] at q1; exact q1
      | some z =>
        obtain ⟨r, s'⟩ := z
        rw [e2] at q1
        cases r with
        | ex g n => exact q1
        | ok a =>
          obtain ⟨f, env'⟩ := a
          cases f with
          | nx => exact fun σ G' H' er eo g k' gz => ⟨env', G', s', ⟨er, eo, k', g⟩, PostS.mono gz q1⟩
          | cnt => exact fun σ G' H' er eo g k' gz => ⟨env', G', s', ⟨er, eo, k', g⟩, PostS.mono gz q1⟩
          | brk => exact q1
          | ret d => exact q1
theorem ps_forM {m : Cx → Prop} {X : Cx} {tg iter : Expr} {body : List Stmt} {wi : TI} {g : TG} {tb : TS} {pos : Pos} (hp : PassesOwn (model X.prog X.w) X.A X.env X.xe) (hc : m X) (hi : PIM X m tg iter wi) (hg : PG X tg g) (hb : PSs X body tb)
    (hs : ∀ x, foldedSetIterable iter X.env x = pure x) : PS X (.For tg iter body [] pos) (tFor wi g tb) := by
  refine ⟨fun pins s σ H D I h => ?_⟩
  refine wpAny_For (thn (hi.run pins s σ H _ I h) fun v s1 h1 => thn h1 fun itv s2 h2 => ?_) hs
  obtain ⟨it, fp, tn, J, H2, e, I2, T, st2, f2, W, ⟨m0, w0⟩, turn⟩ := h2
  subst e
  have stat : ∀ {H' : Hp}, (∀ b ∈ fp, H' b = none) → ∀ b ∈ fp, FpOk X pins H' b := fun hn b hb => ⟨hn b hb, (f2 b hb).2⟩
  refine codeAny_forLoop_any (fun n s' => ∃ i σ' H', Inv X pins σ' H' s' ∧ tn i s'.heap ∧ (∀ b ∈ fp, H' b = none) ∧ W i n σ' H') ?_ m0 ⟨0, σ, H2, I2, st2, fun b hb => (f2 b hb).1, w0⟩
  rintro n s3 ⟨i, σ3, H3, I3, st3, fr3, w3⟩
  rcases turn i n σ3 H3 w3 with ⟨stop, qn⟩ | ⟨go, N, hN, step⟩
  · refine wpAny_passesOwn hp (thn (T.done X rfl rfl rfl hc i pins s3 σ3 H3 X.xe I3 (stat fr3) st3 stop) fun r s4 ⟨hr, I4⟩ => ?_)
    subst hr
    exact wpAny_execs_nil ⟨σ3, H3, I4, qn⟩
  · refine wpAny_passesOwn hp (thn (T.item X rfl rfl rfl hc i pins s3 σ3 H3 X.xe I3 (stat fr3) st3 go) fun r s4 ⟨u, hr, h4⟩ => ?_)
    subst hr
    refine wpAny_passesOwn hp (thn h4 fun _ s5 ⟨x, H5, I5, r5, y5, st5, fr5⟩ => ?_)
    have I5' := I5.pinned (stat fr5) (T.obj _ _ st5)
    refine wpAny_passesOwn hp (thn (hg.run _ s5 σ3 H5 x u _ I5' r5 (step x H5 y5)) fun _ s6 ⟨σ6, H6, I6, q6⟩ => ?_)
    refine wpAny_passesOwn hp (thn (hb.run _ s6 σ6 H6 _ I6 q6) fun f s7 q7 => ?_)
    have again : ∀ {σ7 : L2.St} {H7 : Hp}, Inv X (pins ++ pinsAt fp s5.heap) σ7 H7 s7 → N σ7 H7 → ∃ m, m < n ∧ ∃ i σ' H', Inv X pins σ' H' s7 ∧ tn i s7.heap ∧ (∀ b ∈ fp, H' b = none) ∧ W i m σ' H' := fun {σ7 H7} I7 n7 => by
      obtain ⟨m', hm, w7⟩ := hN σ7 H7 n7
      refine ⟨m', hm, i + 1, σ7, H7, I7.unpinned, T.keep _ _ _ st5 fun b hb o e => (I7.pin (b, o) (List.mem_append_right _ (List.mem_append_right _ (mem_pinsAt hb e)))).1, fun b hb => ?_, w7⟩
      obtain ⟨o, e, d⟩ := T.obj _ _ st5 b hb
      exact (I7.pin (b, o) (List.mem_append_right _ (List.mem_append_right _ (mem_pinsAt hb e)))).2.1
    cases f with
    | next => obtain ⟨σ7, H7, I7, n7⟩ := q7; exact again I7 n7
    | cont => obtain ⟨σ7, H7, I7, n7⟩ := q7; exact again I7 n7
    | brk => obtain ⟨σ7, H7, I7, q7⟩ := q7; exact ⟨σ7, H7, I7.unpinned, q7⟩
    | ret v => obtain ⟨x7, σ7, H7, I7, r7, q7⟩ := q7; exact ⟨x7, σ7, H7, I7.unpinned, r7, q7⟩
theorem st_fr (c : Sxt Γ N GN K C W s w X) {t : T} {it : I} {b : Ss} {p : Pos} (hi : okI N GN K s t.isTp it = true) (ht : t.ok w = true) (hb : PSs X (backSs N GN b) (rdS Γ W G0 H0 (exs C b))) :
    PS X (.For (backT N GN t) (backI N GN it) (backSs N GN b) [] p) (rdS Γ W G0 H0 (ex C (.fr t it b p))) := by
  refine PS.imp (ps_forM (m := mX X) c.own ⟨c.c.md, id⟩ (s_I it t W s X c.c hi) (g_T N GN c.c.hK c.sto c.c.hN t ht) hb (fun x => fold_backI it X.env x)) fun Z σ H ⟨env, G, u, S, q⟩ => ?_
  refine ⟨env, G, u, S.er, S.k, stR S (show PostS Γ W G0 H0 G H (M.bind (evI C it env) (fun l => forL (tgt t) (exs C b) l env) u) Z from q) fun ds s1 q1 J G1 H1 g1 k1 y => ?_⟩
  have S1 := S.grow g1 k1
  have q1 := q1.mono (g1.toZ S.k)
  refine ⟨fun i m σ H => m = ds.length - i ∧ i ≤ ds.length ∧ ∃ env G u, Sit Γ G0 H0 env u σ G H ∧ GrowZ G1 H1 G H ∧ PostS Γ W G0 H0 G H (forL (tgt t) (exs C b) (ds.drop i) env u) Z, ⟨ds.length, rfl, Nat.zero_le _, env, G1, s1, S1, .refl _ _, q1⟩, ?_⟩
  rintro i m σ H ⟨rfl, hi, env, G, u, S, gz, q⟩
  obtain ⟨yg, ys⟩ := y i G H u gz S.k
  by_cases hlt : i < ds.length
  · have hd : ds[i]? = some ds[i] := List.getElem?_eq_getElem hlt
    obtain ⟨go, yl⟩ := yg _ hd
    have q : PostS Γ W G0 H0 G H ((match tgt t ds[i] env with
      | none => M.no
      | some env1 => M.bind (exs C b env1) fun r => match r with
        | (.nx, env2) => forL (tgt t) (exs C b) (ds.drop (i + 1)) env2
        | (.cnt, env2) => forL (tgt t) (exs C b) (ds.drop (i + 1)) env2
        | (.brk, env2) => M.pure (.nx, env2)
        | (.ret d, env2) => M.pure (.ret d, env2)) u) Z := by
      have e := List.drop_eq_getElem_cons hlt
      rw [e] at q
      exact q
    cases e1 : tgt t ds[i] env with
    | none => rw [e1] at q; exact (show False from q).elim
    | some env1 =>
      rw [e1] at q
      refine .inr ⟨go, fun σ H => ds.length - (i + 1) = ds.length - (i + 1) ∧ i + 1 ≤ ds.length ∧ ∃ env G u, Sit Γ G0 H0 env u σ G H ∧ GrowZ G1 H1 G H ∧ PostS Γ W G0 H0 G H (forL (tgt t) (exs C b) (ds.drop (i + 1)) env u) Z, fun σ' H' n => ⟨ds.length - (i + 1), by omega, n⟩, fun x H' hy => ?_⟩
      obtain ⟨G2, g2, k2, rx⟩ := yl x H' hy
      have S2 := S.grow g2 k2
      refine sit_tgt S2 rx e1 fun σ' S' => ⟨env1, G2, u, S', ?_⟩
      have q := PostS.mono (g2.toZ S.k) q
      have q : PostS Γ W G0 H0 G2 H' (M.bind (exs C b env1) (fun r => match r with
        | (.nx, env2) => forL (tgt t) (exs C b) (ds.drop (i + 1)) env2
        | (.cnt, env2) => forL (tgt t) (exs C b) (ds.drop (i + 1)) env2
        | (.brk, env2) => M.pure (.nx, env2)
        | (.ret d, env2) => M.pure (.ret d, env2)) u) Z := q
      unfold M.bind at q
      cases e2 : exs C b env1 u with
      | none => rw [e2] at q; exact q
      | some z =>
        obtain ⟨r, s'⟩ := z
        rw [e2] at q
        cases r with
        | ex g n => exact q
        | ok a =>
          obtain ⟨f, env'⟩ := a
          cases f with
          | nx => exact fun σ G' H' er eo g k' gz' => ⟨rfl, hlt, env', G', s', ⟨er, eo, k', g⟩, (gz.trans (g2.toZ S.k)).trans gz', PostS.mono gz' q⟩
          | cnt => exact fun σ G' H' er eo g k' gz' => ⟨rfl, hlt, env', G', s', ⟨er, eo, k', g⟩, (gz.trans (g2.toZ S.k)).trans gz', PostS.mono gz' q⟩
          | brk => exact q
          | ret d => exact q
  · have e : i = ds.length := by omega
    subst e
    rw [List.drop_length] at q
    exact .inl ⟨ys (Nat.le_refl _), nx_of (show PostS Γ W G0 H0 G H (nxt env u) Z from q) S (.refl _ _)⟩
theorem st_rai (c : Sxt Γ N GN K C W s w X) {g : Nat} {x : Str} {k : Nat} {gp sp cp p : Pos} (hc : s.cold = true) (hk : K g = .cls) (hg : s.gls.contains g = true) : PS X (.Raise (some (.Call (.Name (nm GN g) gp) [.Constant (.str x) k sp] [] cp)) none p) (rdS Γ W G0 H0 (ex C (.rai g x k gp sp cp p))) :=
  PS.imp (L2N.ps_raise (c.c.cold hc) c.c.tk (c.rai hc g x k gp sp cp hk hg)) fun Z σ H ⟨env, G, t, S, q⟩ =>
    (show ∀ cls da σ G' H', Grow G0 H0 G' H' → SOk Γ G' H' t → ExR Γ H' g 0 cls da → W cls da σ H' from q) _ _ σ G H S.g S.k ⟨rfl, rfl⟩
end
end Co
set_option Elab.async false
set_option linter.all false
set_option maxRecDepth 100000
set_option maxHeartbeats 4000000
namespace Co
open PySem PySem.Spec PyProof.Rows L2 HotX L2H
theorem bnot {b : Bool} (h : (!b) = true) : b = false := by cases b <;> simp_all
def GK.isCls : GK → Bool
  | .cls => true
  | _ => false
theorem isCls_of {k : GK} (h : k.isCls = true) : k = .cls := by cases k <;> first | rfl | cases h
def Ss.some : Ss → Bool
  | .cons (.fz _) _ => false
  | .cons _ _ => true
  | .nil => false
def Sc.hot (s : Sc) : Sc := { s with cold := false, calls := false, act := false, lam := false }
def Sc.nolam (s : Sc) : Sc := { s with lam := false }
mutual
def okS (N GN : List Str) (K : Nat → GK) (w : List Nat) (s : Sc) (tr : Bool) : S → Bool
  | .asg (.nm i _) e _ => w.contains i && okE N GN K s e
  | .asg (.tp ts _ _) e _ => ts.ok w && (okE N GN K s e && swNone s.sc (backTs N GN ts) (back N GN e))
  | .asgO i _ e _ => w.contains i && (okE N GN K s e && e.isO)
  | .par oi oj i j ip jp _ _ a b k2 p2 _ => ((!oi || a.isO) && (!oj || b.isO)) && ((okE N GN K s a && okE N GN K s b) &&
    (if swNone s.sc [.Name (nm N i) ip, .Name (nm N j) jp] (.Tuple [back N GN a, back N GN b] k2 p2) then w.contains i && w.contains j
      else s.cold && (decide (i ≠ j) && (parB N s.sc i && (parB N s.sc j && (decide (swNames s.sc [.Name (nm N i) ip, .Name (nm N j) jp] = [nm N i, nm N j]) && !([back N GN a, back N GN b].all (constantsAlone 8))))))))
  | .par3 oi oj ol i j l ip jp lp _ _ a b d k2 p2 _ => ((!oi || a.isO) && ((!oj || b.isO) && (!ol || d.isO))) && ((okE N GN K s a && (okE N GN K s b && okE N GN K s d)) &&
    (if swNone s.sc [.Name (nm N i) ip, .Name (nm N j) jp, .Name (nm N l) lp] (.Tuple [back N GN a, back N GN b, back N GN d] k2 p2) then w.contains i && (w.contains j && w.contains l)
      else s.cold && (decide (i ≠ j) && (decide (i ≠ l) && (decide (j ≠ l) && (parB N s.sc i && (parB N s.sc j && (parB N s.sc l && (decide (swNames s.sc [.Name (nm N i) ip, .Name (nm N j) jp, .Name (nm N l) lp] = [nm N i, nm N j, nm N l]) && !([back N GN a, back N GN b, back N GN d].all (constantsAlone 8)))))))))))
  | .dnew i _ _ _ => w.contains i
  | .dnew1 i _ es _ _ e _ _ => w.contains i && (okEs N GN K s es && okE N GN K s e)
  | .dput i _ es _ _ _ e _ => s.vis.contains i && (okEs N GN K s es && (okE N GN K s e && e.noLc))
  | .setO i _ x _ e _ => s.vis.contains i && (okE N GN K s x && okE N GN K s e)
  | .setC i _ x _ e _ => s.vis.contains i && (okE N GN K s x && okE N GN K s e)
  | .app i _ ap cp e _ => s.vis.contains i && (okE N GN K s e && (ap.endLine == cp.line))
  | .pop i _ ap cp _ => s.vis.contains i && (ap.endLine == cp.line)
  | .expr e _ => okE N GN K s e && e.noLc
  | .ret e _ => okE N GN K s e
  | .retN _ => true
  | .iff c a b _ => okE N GN K s c && (okSs N GN K w s tr a && okSs N GN K w s tr b)
  | .whl c b _ => okE N GN K s c && okSs N GN K w s tr b
  | .fr t it b _ => okI N GN K s t.isTp it && (t.ok w && okSs N GN K w s tr b)
  | .brk _ => true
  | .cnt _ => true
  | .pas _ => true
  | .rai g _ _ _ _ _ _ => s.cold && ((K g).isCls && s.gls.contains g)
  | .fz _ => true
  | .tre e _ g i _ _ b _ => tr && (s.cold && (okE N GN K s.nolam e && (e.noLc && ((K g).isCls && (s.gls.contains g && (parB N s.sc i && (b.some && okSs N GN K w s.hot false b)))))))
def okSs (N GN : List Str) (K : Nat → GK) (w : List Nat) (s : Sc) (tr : Bool) : Ss → Bool
  | .nil => true
  | .cons a b => okS N GN K w s tr a && okSs N GN K w s tr b
end
def Mo.hot (Γ : Mo) (a : Addr) (g : Nat) (n : Int) : Mo := { Γ with exc := Option.some (a, g, n) }
section
variable {Γ : Mo} {G : Gh} {H : Hp} {a : Addr} {g : Nat} {n : Int} {s : St2}
mutual
theorem Rp.hot (h0 : Γ.exc = none) : ∀ {v : V} {d : D}, Rp Γ G H v d → Rp (Γ.hot a g n) G H v d
  | _, _, .non => .non
  | _, _, .bl b => .bl b
  | _, _, .int i => .int i
  | _, _, .str x => .str x
  | _, _, .lst z h r => .lst z h (Rps.hot h0 r)
  | _, _, .tup h r => .tup h (Rps.hot h0 r)
  | _, _, .cup h => .cup h
  | _, _, .fn i => .fn (Γ := Γ.hot a g n) i
  | _, _, .thk h => .thk h
  | _, _, .exc h => by rw [h0] at h; cases h
  | _, _, .scr h => .scr h
theorem Rps.hot (h0 : Γ.exc = none) : ∀ {vs : List V} {ds : List D}, Rps Γ G H vs ds → Rps (Γ.hot a g n) G H vs ds
  | _, _, .nil => .nil
  | _, _, .cons h r => .cons (Rp.hot h0 h) (Rps.hot h0 r)
end
mutual
theorem Rp.cool : ∀ {v : V} {d : D}, d.nox = true → Rp (Γ.hot a g n) G H v d → Rp Γ G H v d
  | _, _, _, .non => .non
  | _, _, _, .bl b => .bl b
  | _, _, _, .int i => .int i
  | _, _, _, .str x => .str x
  | _, _, f, .lst z h r => .lst z h (Rps.cool (by simpa [D.nox] using f) r)
  | _, _, f, .tup h r => .tup h (Rps.cool (by simpa [D.nox] using f) r)
  | _, _, _, .cup h => .cup h
  | _, _, _, .fn i => .fn (Γ := Γ) i
  | _, _, _, .thk h => .thk h
  | _, _, f, .exc h => by simp [D.nox] at f
  | _, _, _, .scr h => .scr h
theorem Rps.cool : ∀ {vs : List V} {ds : List D}, D.noxs ds = true → Rps (Γ.hot a g n) G H vs ds → Rps Γ G H vs ds
  | _, _, _, .nil => .nil
  | _, _, f, .cons h r => by
    simp [D.noxs] at f
    exact .cons (Rp.cool f.1 h) (Rps.cool f.2 r)
end
theorem SOk.hot (h0 : Γ.exc = none) (k : SOk Γ G H s) : SOk (Γ.hot a g n) G H s := ⟨k.cup, k.tabs, k.thk, k.scr, k.zl, fun q hq => (k.held q hq).hot h0⟩
theorem SOk.cool (hh : ∀ p ∈ Γ.held, p.2.nox = true) (k : SOk (Γ.hot a g n) G H s) : SOk Γ G H s := ⟨k.cup, k.tabs, k.thk, k.scr, k.zl, fun q hq => (k.held q hq).cool (hh q hq)⟩
theorem ER.hot {env : En} {σ : L2.St} (h0 : Γ.exc = none) (e : ER Γ G H env σ) : ER (Γ.hot a g n) G H env σ := ⟨e.len, fun i sl h => by
  have q := e.at_ i sl h
  cases sl with
  | un => trivial
  | val d => obtain ⟨v, e1, r⟩ := q; exact ⟨v, e1, r.hot h0⟩
  | own ds => obtain ⟨p, xs, e1, e2, e3, e4, r⟩ := q; exact ⟨p, xs, e1, e2, e3, e4, r.hot h0⟩
  | dic ds => obtain ⟨p, xs, e1, e2, r, nd⟩ := q; exact ⟨p, xs, e1, e2, r.imp fun _ _ h => h.hot h0, nd⟩, e.inj⟩
theorem ER.cool {env : En} {σ : L2.St} (hx : env.all Sl.nox = true) (e : ER (Γ.hot a g n) G H env σ) : ER Γ G H env σ := ⟨e.len, fun i sl h => by
  have q := e.at_ i sl h
  have f := List.all_eq_true.mp hx sl (List.mem_of_getElem? h)
  cases sl with
  | un => trivial
  | val d => obtain ⟨v, e1, r⟩ := q; exact ⟨v, e1, r.cool f⟩
  | own ds => obtain ⟨p, xs, e1, e2, e3, e4, r⟩ := q; exact ⟨p, xs, e1, e2, e3, e4, r.cool f⟩
  | dic ds => obtain ⟨p, xs, e1, e2, r, nd⟩ := q; exact ⟨p, xs, e1, e2, r.impM (p := D.nox) (fun _ _ f h => h.cool f) f, nd⟩, e.inj⟩
end
structure Txt (Γ : Mo) (N GN : List Str) (K : Nat → GK) (C : Cl) (X : Cx) : Prop where
  stk : X.stack = X.env :: X.outer
  fr : X.env.frame = some X.env.locals
  ex : Γ.exc = none
  held : ∀ p ∈ Γ.held, p.2.nox = true
  exm : ∀ c n g b, K g = .cls → C.cls g (.exc c n) = some b → PySem.W.exmOne X.K (.ref (Γ.at_ c)) (.ref (Γ.at_ g)) = some b
  isi : ∀ (a : Addr) (oe : Obj) (c : Nat) (n : Int) (pn : List (Addr × Obj)), L2N.Zn (.ref (Γ.at_ c)) none oe → (∃ vs, oe.data = .fields vs) → (∃ g b, C.cls g (.exc c n) = some b) →
    ∀ Y, Like (X.suite a ((a, oe) :: pn)) Y → ∀ t, CallR Y (.builtin "isinstance") (rIsiX (Γ.hot a c n) K C t)
section
variable {Γ : Mo} {N GN : List Str} {K : Nat → GK} {C : Cl} {W : WX} {s : Sc} {w : List Nat} {X : Cx}
theorem gfact_hot {mg : Str → Option Value} {g : Nat} {a : Addr} {c : Nat} {n : Int} (h0 : Γ.exc = none) (hh : ∀ p ∈ Γ.held, p.2.nox = true) (f : GFact Γ GN K mg g) : GFact (Γ.hot a c n) GN K mg g := by
  unfold GFact at f ⊢
  cases q : K g with
  | val d =>
    rw [q] at f
    obtain ⟨u, v, e1, e2, r⟩ := f
    exact ⟨u, v, e1, e2, fun G H s k => (r G H s (k.cool hh)).hot h0⟩
  | fn => rw [q] at f; exact f
  | cls => rw [q] at f; exact f
  | blt b => rw [q] at f; cases b <;> exact f
  | isi => rw [q] at f; exact f
  | ty t => rw [q] at f; exact f
  | rng => rw [q] at f; exact f
  | enu => rw [q] at f; exact f
  | zip => rw [q] at f; exact f
  | no => trivial
theorem Sxt.hot (c : Sxt Γ N GN K C W s w X) (T : Txt Γ N GN K C X) {a : Addr} {oe : Obj} {cc : Nat} {n : Int} {pn : List (Addr × Obj)} (hz : L2N.Zn (.ref (Γ.at_ cc)) none oe) (hd : ∃ vs, oe.data = .fields vs) (hk : ∃ g b, C.cls g (.exc cc n) = some b) :
    Sxt (Γ.hot a cc n) N GN K C noW s.hot w (X.suite a ((a, oe) :: pn)) where
  c := {
    hK := c.c.hK
    md := .inr ⟨(a, oe), ⟨rfl, by obtain ⟨vs, e⟩ := hd; exact ⟨vs, e, hz.2.2 vs e⟩⟩, List.mem_cons_self⟩
    cold := fun h => nomatch h
    hu := c.c.hu
    hN := c.c.hN
    nd := c.c.nd
    tk := fun u s' ⟨_, _, _, _, _, _, _, _, _, _, _, _, _, _, _, _, w⟩ => w
    sc := c.c.sc
    gf := fun g => gfact_hot T.ex T.held (c.c.gf g)
    isi := fun Y h t => T.isi a oe cc n pn hz hd hk Y h t
    fns := fun h => nomatch h
    vis := c.c.vis
    gls := c.c.gls
    act := fun h => nomatch h
    lam := fun h => nomatch h }
  own := .never
  sto := ⟨c.sto.nd, .inr ⟨(a, oe), ⟨rfl, by obtain ⟨vs, e⟩ := hd; exact ⟨vs, e, hz.2.2 vs e⟩⟩, List.mem_cons_self⟩, c.sto.at_⟩
  kf := c.kf
  rai := fun h => nomatch h
theorem Cxt.tr (c : Cxt Γ N GN K C W s X) {W' : WX} {pn : List (Addr × Obj)} {xe : Value → Shared → Prop} (hc : s.cold = true) (tk : L2N.Takes (X.tr pn xe) W') : Cxt Γ N GN K C W' s.nolam (X.tr pn xe) where
  hK := c.hK
  md := .inl (c.cold hc)
  cold := c.cold
  hu := c.hu
  hN := c.hN
  nd := c.nd
  tk := tk
  sc := c.sc
  gf := c.gf
  isi := fun Y h => c.isi Y ⟨h.prog, h.w, h.K, h.mg, h.base, h.A, h.calm, fun z => by rw [c.cold hc] at z; cases z⟩
  fns := c.fns
  vis := c.vis
  gls := c.gls
  act := fun h W2 pn2 xe2 tk2 => c.act h W2 pn2 xe2 tk2
  lam := fun h => nomatch h
def StOk (X : Cx) (l : List Stmt) (t : TS) : Prop := (∃ st, l = [st] ∧ PS X st t) ∨ (l = [] ∧ ∀ Z σ H, t Z σ H → Z.nx σ H)
theorem StOk.cons {X : Cx} {l rest : List Stmt} {t u : TS} (h : StOk X l t) (hr : PSs X rest u) : PSs X (l ++ rest) (tSeq t u) := by
  rcases h with ⟨st, rfl, h⟩ | ⟨rfl, h⟩
  · exact pss_cons h hr
  · exact PSs.imp hr fun Z σ H q => h { Z with nx := u Z } σ H q
theorem st_fz {G0 : Gh} {H0 : Hp} {i : Nat} {Z : Ends} {σ : L2.St} {H : Hp} (h : rdS Γ W G0 H0 (ex C (.fz i)) Z σ H) : Z.nx σ H := by
  obtain ⟨env, G, t, S, q⟩ := h
  have q : PostS Γ W G0 H0 G H ((match env.own i with | some l => nxt (env.set i (.val (.lst l))) | none => M.no) t) Z := q
  cases e : env.own i with
  | none => rw [e] at q; exact (show False from q).elim
  | some l =>
    rw [e] at q
    obtain ⟨p, S'⟩ := S.freeze e
    exact nx_of q S' (.add p)
theorem enset_len (env : En) (i : Nat) (v : Sl) : (env.set i v).length = env.length := List.length_set
theorem st_tre (c : Sxt Γ N GN K C W s w X) (T : Txt Γ N GN K C X) {G0 : Gh} {H0 : Hp} {e : E} {g i : Nat} {b : Ss} {ep gp hp p : Pos} (hc : s.cold = true) (he : okE N GN K s.nolam e = true) (hn : e.noLc = true) (hg : K g = .cls) (hgl : s.gls.contains g = true) (hi : parB N s.sc i = true) (hb : b.some = true)
    (hbody : ∀ (Γ' : Mo) (X' : Cx), Sxt Γ' N GN K C noW s.hot w X' → PSs X' (backSs N GN b) (rdS Γ' noW G0 H0 (exs C b))) :
    PS X (.Try [.Expr (back N GN e) ep] [.ExceptHandler (some (.Name (nm GN g) gp)) (some (nm N i)) (backSs N GN b) hp] [] [] p) (rdS Γ W G0 H0 (ex C (.tre e ep g i gp hp b p))) := by
  obtain ⟨i1, i2⟩ := parB_ok c.c.hN c.c.sc hi
  obtain ⟨a1, a2, a3⟩ := c.c.gl hgl
  have fct := c.c.gf g
  unfold GFact at fct
  rw [hg] at fct
  obtain ⟨b0, bs, hbs⟩ : ∃ b0 bs, backSs N GN b = b0 :: bs := by
    cases b with
    | nil => cases hb
    | cons st ss =>
      cases st with
      | fz _ => cases hb
      | _ => exact ⟨_, _, rfl⟩
  rw [hbs]
  refine PS.imp (L2N.ps_try_as (c := .ref (Γ.at_ g)) (i := i) (tb := fun W' => tDrop (rd Γ W' e.isO (ev C e))) (ts := fun a cls d => fun Z σ H => ∃ c n, cls = .ref (Γ.at_ c) ∧ d = none ∧ (∃ g b, C.cls g (.exc c n) = some b) ∧ rdS (Γ.hot a c n) noW G0 H0 (exs C b) Z σ H) T.stk T.fr c.sto.nd i1 i2 ⟨a1, a2, .inl fct⟩ c.c.tk (fun W' pn xe tk po => ?_) (fun a oe cls d pn hz hd => ?_)) fun Z σ H h => ?_
  · exact pss_one (ps_expr (s_E e W' _ _ (c.c.tr hc tk) he) (sw_back N GN _ _ _ e hn))
  · refine ⟨fun pins s' σ H Z I h => ?_⟩
    obtain ⟨cc, n, rfl, rfl, hk, h⟩ := h
    have q := hbody _ _ (c.hot T (a := a) (oe := oe) (cc := cc) (n := n) (pn := pn) hz hd hk)
    rw [hbs] at q
    exact q.run pins s' σ H Z I h
  · obtain ⟨env, G, t, S, q⟩ := h
    have q : PostS Γ W G0 H0 G H (match ev C e env t with
      | some (.ok _, s') => some (.ok (.nx, env), s')
      | some (.ex c n, s') => match C.cls g (.exc c n) with
        | some true => M.bind (M.calm (exs C b (env.set i (.val (.exc c n))))) (fun r => if noxR (r.1, r.2.set i .un) then M.pure (r.1, r.2.set i .un) else M.no) s'
        | _ => none
      | none => none) Z := q
    refine ⟨env, G, t, S.er, S.k, ?_⟩
    cases e1 : ev C e env t with
    | none => rw [e1] at q; exact q
    | some z =>
      obtain ⟨r, s1⟩ := z
      rw [e1] at q
      cases r with
      | ok d =>
        show PostV Γ G H s1 e.isO d (fun _ H1 => Z.nx σ H1)
        have z : ∀ v G' H', Grow G H G' H' → SOk Γ G' H' s1 → Rp Γ G' H' v d → Z.nx σ H' := fun v G' H' g' k' r => nx_of (show PostS Γ W G0 H0 G H (nxt env s1) Z from q) (S.grow g' k') (g'.toZ S.k)
        cases e.isO with
        | false => exact z
        | true => exact PostV.weak z
      | ex cc n =>
        show ∀ cls da G' H', Grow G H G' H' → SOk Γ G' H' s1 → ExR Γ H' cc n cls da → wAs X.K (.ref (Γ.at_ g)) i _ W Z cls da σ H'
        intro cls da G1 H1 g1 k1 hx
        obtain ⟨rfl, rfl⟩ := hx
        have q : PostS Γ W G0 H0 G H (match C.cls g (.exc cc n) with
          | some true => M.bind (M.calm (exs C b (env.set i (.val (.exc cc n))))) (fun r => if noxR (r.1, r.2.set i .un) then M.pure (r.1, r.2.set i .un) else M.no) s1
          | _ => none) Z := q
        cases e2 : C.cls g (.exc cc n) with
        | none => rw [e2] at q; exact (show False from q).elim
        | some bb =>
          rw [e2] at q
          cases bb with
          | false => exact (show False from q).elim
          | true =>
            refine ⟨true, T.exm cc n g true hg e2, fun _ a ha => ?_, fun z => nomatch z⟩
            have S1 := S.grow g1 k1
            have S2 : Sit (Γ.hot a cc n) G0 H0 (env.set i (.val (.exc cc n))) s1 (σ.set i (some (.ref a))) G1 H1 := by
              have S2 : Sit (Γ.hot a cc n) G0 H0 env s1 σ G1 H1 := ⟨S1.er.hot T.ex, S1.eo, S1.k.hot T.ex, S1.g⟩
              exact S2.set (.exc rfl)
            refine ⟨cc, n, rfl, rfl, ⟨g, true, e2⟩, env.set i (.val (.exc cc n)), G1, s1, S2, ?_⟩
            have q := PostS.mono (g1.toZ S.k) q
            have q : PostS Γ W G0 H0 G1 H1 (M.bind (M.calm (exs C b (env.set i (.val (.exc cc n))))) (fun r => if noxR (r.1, r.2.set i .un) then M.pure (r.1, r.2.set i .un) else M.no) s1) Z := q
            unfold M.bind M.calm at q
            cases e3 : exs C b (env.set i (.val (.exc cc n))) s1 with
            | none => rw [e3] at q; exact q
            | some z =>
              obtain ⟨r, s2⟩ := z
              rw [e3] at q
              cases r with
              | ex _ _ => exact (show False from q).elim
              | ok a' =>
                obtain ⟨f, env'⟩ := a'
                have q : PostS Γ W G0 H0 G1 H1 ((if noxR (f, env'.set i .un) then M.pure (f, env'.set i .un) else M.no) s2) Z := q
                by_cases hnx : noxR (f, env'.set i .un) = true
                · rw [if_pos hnx] at q
                  obtain ⟨n1, n2⟩ := Bool.and_eq_true_iff.mp hnx
                  have fin : ∀ σ' G' H', ER (Γ.hot a cc n) G' H' env' σ' → ER Γ G' H' (env'.set i .un) (σ'.set i none) := fun σ' G' H' er => by
                    refine ER.cool (a := a) (g := cc) (n := n) n2 ?_
                    by_cases hi : i < env'.length
                    · exact er.set' (sl := .un) (o := none) trivial hi rfl
                    · rw [set_ge _ _ _ hi, set_ge _ _ _ (by rw [← er.len]; exact hi)]; exact er
                  cases f with
                  | nx => exact fun σ' G' H' er eo gg kk gz => (show ∀ σ G' H', ER Γ G' H' (env'.set i .un) σ → EO H0 (env'.set i .un) σ → Grow G0 H0 G' H' → SOk Γ G' H' s2 → GrowZ G1 H1 G' H' → Z.nx σ H' from q) (σ'.set i none) G' H' (fin σ' G' H' er) (EO.set' (sl := .un) eo (fun p z _ => nomatch z) er.len) gg (kk.cool T.held) gz
                  | brk => exact fun σ' G' H' er eo gg kk gz => (show ∀ σ G' H', ER Γ G' H' (env'.set i .un) σ → EO H0 (env'.set i .un) σ → Grow G0 H0 G' H' → SOk Γ G' H' s2 → GrowZ G1 H1 G' H' → Z.bk σ H' from q) (σ'.set i none) G' H' (fin σ' G' H' er) (EO.set' (sl := .un) eo (fun p z _ => nomatch z) er.len) gg (kk.cool T.held) gz
                  | cnt => exact fun σ' G' H' er eo gg kk gz => (show ∀ σ G' H', ER Γ G' H' (env'.set i .un) σ → EO H0 (env'.set i .un) σ → Grow G0 H0 G' H' → SOk Γ G' H' s2 → GrowZ G1 H1 G' H' → Z.ct σ H' from q) (σ'.set i none) G' H' (fin σ' G' H' er) (EO.set' (sl := .un) eo (fun p z _ => nomatch z) er.len) gg (kk.cool T.held) gz
                  | ret d => exact fun v G' H' gg kk r => (show ∀ v G' H', Grow G0 H0 G' H' → SOk Γ G' H' s2 → Rp Γ G' H' v d → Z.rt v H' from q) v G' H' gg (kk.cool T.held) (r.cool n1)
                · rw [if_neg hnx] at q; exact (show False from q).elim
mutual
theorem s_S {G0 : Gh} {H0 : Hp} : ∀ (st : S) (Γ : Mo) (W : WX) (s : Sc) (X : Cx) (tr : Bool), Sxt Γ N GN K C W s w X → (tr = true → Txt Γ N GN K C X) → okS N GN K w s tr st = true → StOk X (backS N GN st) (rdS Γ W G0 H0 (ex C st))
  | .asg (.nm i ip) e p, Γ, W, s, X, tr, c, T, h => .inl ⟨_, rfl, st_asg c (and2 h).1 (and2 h).2⟩
  | .asg (.tp ts k tp) e p, Γ, W, s, X, tr, c, T, h => .inl ⟨_, rfl, st_tup c (and3 h).1 (and3 h).2.1 (and3 h).2.2⟩
  | .asgO i ip e p, Γ, W, s, X, tr, c, T, h => .inl ⟨_, rfl, st_asgO c (and3 h).1 (and3 h).2.1 (and3 h).2.2⟩
  | .par oi oj i j ip jp tp k a b k2 p2 p, Γ, W, s, X, tr, c, T, h => by
    obtain ⟨h0, h⟩ := and2 h
    obtain ⟨ha, hb⟩ := and2 h0
    obtain ⟨h1, h⟩ := and2 h
    obtain ⟨h5, h6⟩ := and2 h1
    have ka : oi = true → a.isO = true := fun z => by rw [z] at ha; simpa using ha
    have kb : oj = true → b.isO = true := fun z => by rw [z] at hb; simpa using hb
    cases hsw : swNone s.sc [.Name (nm N i) ip, .Name (nm N j) jp] (.Tuple [back N GN a, back N GN b] k2 p2) with
    | true =>
      rw [hsw, if_pos rfl] at h
      exact .inl ⟨_, rfl, st_parT c (and2 h).1 (and2 h).2 h5 h6 hsw ka kb⟩
    | false =>
      rw [hsw, if_neg (by decide)] at h
      obtain ⟨h1, h2, h⟩ := and3 h
      obtain ⟨h3, h4, h⟩ := and3 h
      obtain ⟨h8, h9⟩ := and2 h
      exact .inl ⟨_, rfl, st_par c h1 h2 h3 h4 h5 h6 hsw h8 (bnot h9) ka kb⟩
  | .par3 oi oj ol i j l ip jp lp tp k a b d k2 p2 p, Γ, W, s, X, tr, c, T, h => by
    obtain ⟨h0, h⟩ := and2 h
    obtain ⟨ha, hb, hd⟩ := and3 h0
    obtain ⟨h1, h⟩ := and2 h
    obtain ⟨e1, e2, e3⟩ := and3 h1
    have ka : oi = true → a.isO = true := fun z => by rw [z] at ha; simpa using ha
    have kb : oj = true → b.isO = true := fun z => by rw [z] at hb; simpa using hb
    have kd : ol = true → d.isO = true := fun z => by rw [z] at hd; simpa using hd
    cases hsw : swNone s.sc [.Name (nm N i) ip, .Name (nm N j) jp, .Name (nm N l) lp] (.Tuple [back N GN a, back N GN b, back N GN d] k2 p2) with
    | true =>
      rw [hsw, if_pos rfl] at h
      exact .inl ⟨_, rfl, st_par3T c (and3 h).1 (and3 h).2.1 (and3 h).2.2 e1 e2 e3 hsw ka kb kd⟩
    | false =>
      rw [hsw, if_neg (by decide)] at h
      obtain ⟨h1, h2, h⟩ := and3 h
      obtain ⟨h3, h4, h⟩ := and3 h
      obtain ⟨h5, h6, h⟩ := and3 h
      obtain ⟨h7, h8, h9⟩ := and3 h
      exact .inl ⟨_, rfl, st_par3 c h1 h2 h3 h4 h5 h6 h7 e1 e2 e3 hsw h8 (bnot h9) ka kb kd⟩
  | .dnew i ip p2 p, Γ, W, s, X, tr, c, T, h => .inl ⟨_, rfl, st_dnew c h⟩
  | .dnew1 i ip es k tp e p2 p, Γ, W, s, X, tr, c, T, h => .inl ⟨_, rfl, st_dnew1 c (and3 h).1 (and3 h).2.1 (and3 h).2.2⟩
  | .dput i ip es k tp sp e p, Γ, W, s, X, tr, c, T, h => .inl ⟨_, rfl, st_dput c (and3 h).1 (and3 h).2.1 (and2 (and3 h).2.2).1 (and2 (and3 h).2.2).2⟩
  | .setO i ip x sp e p, Γ, W, s, X, tr, c, T, h => .inl ⟨_, rfl, st_setO c (and3 h).1 (and3 h).2.1 (and3 h).2.2⟩
  | .setC i ip x sp e p, Γ, W, s, X, tr, c, T, h => .inl ⟨_, rfl, st_setC c (and3 h).1 (and3 h).2.1 (and3 h).2.2⟩
  | .app i ip ap cp e p, Γ, W, s, X, tr, c, T, h => .inl ⟨_, rfl, st_app c (and3 h).1 (and3 h).2.1 (and3 h).2.2⟩
  | .pop i ip ap cp p, Γ, W, s, X, tr, c, T, h => .inl ⟨_, rfl, st_pop c (and2 h).1 (and2 h).2⟩
  | .expr e p, Γ, W, s, X, tr, c, T, h => .inl ⟨_, rfl, st_expr c (and2 h).1 (and2 h).2⟩
  | .ret e p, Γ, W, s, X, tr, c, T, h => .inl ⟨_, rfl, st_ret c h⟩
  | .retN p, Γ, W, s, X, tr, c, T, h => .inl ⟨_, rfl, st_retN⟩
  | .iff e a b p, Γ, W, s, X, tr, c, T, h => .inl ⟨_, rfl, st_iff c (and3 h).1 (s_Ss a Γ W s X tr c T (and3 h).2.1) (s_Ss b Γ W s X tr c T (and3 h).2.2)⟩
  | .whl e b p, Γ, W, s, X, tr, c, T, h => .inl ⟨_, rfl, st_whl c (and2 h).1 (s_Ss b Γ W s X tr c T (and2 h).2)⟩
  | .fr t it b p, Γ, W, s, X, tr, c, T, h => .inl ⟨_, rfl, st_fr c (and3 h).1 (and3 h).2.1 (s_Ss b Γ W s X tr c T (and3 h).2.2)⟩
  | .brk p, Γ, W, s, X, tr, c, T, h => .inl ⟨_, rfl, st_brk⟩
  | .cnt p, Γ, W, s, X, tr, c, T, h => .inl ⟨_, rfl, st_cnt⟩
  | .pas p, Γ, W, s, X, tr, c, T, h => .inl ⟨_, rfl, st_pas⟩
  | .rai g x k gp sp cp p, Γ, W, s, X, tr, c, T, h => .inl ⟨_, rfl, st_rai c (and3 h).1 (isCls_of (and3 h).2.1) (and3 h).2.2⟩
  | .fz i, Γ, W, s, X, tr, c, T, h => .inr ⟨rfl, fun Z σ H q => st_fz q⟩
  | .tre e ep g i gp hp b p, Γ, W, s, X, tr, c, T, h => by
    obtain ⟨h1, h2, h⟩ := and3 h
    obtain ⟨h3, h4, h⟩ := and3 h
    obtain ⟨h5, h6, h⟩ := and3 h
    obtain ⟨h7, h8, h9⟩ := and3 h
    exact .inl ⟨_, rfl, st_tre c (T h1) h2 h3 h4 (isCls_of h5) h6 h7 h8 (fun Γ' X' c' => s_Ss b Γ' noW s.hot X' false c' (fun z => nomatch z) h9)⟩
theorem s_Ss {G0 : Gh} {H0 : Hp} : ∀ (ss : Ss) (Γ : Mo) (W : WX) (s : Sc) (X : Cx) (tr : Bool), Sxt Γ N GN K C W s w X → (tr = true → Txt Γ N GN K C X) → okSs N GN K w s tr ss = true → PSs X (backSs N GN ss) (rdS Γ W G0 H0 (exs C ss))
  | .nil, Γ, W, s, X, tr, c, T, h => PSs.imp pss_nil fun Z σ H ⟨env, G, t, S, q⟩ => nx_of (show PostS Γ W G0 H0 G H (nxt env t) Z from q) S (.refl _ _)
  | .cons st ss, Γ, W, s, X, tr, c, T, h => PSs.imp ((s_S st Γ W s X tr c T (and2 h).1).cons (s_Ss ss Γ W s X tr c T (and2 h).2)) fun Z σ H q => st_seq q
end
end
end Co
set_option Elab.async false
set_option linter.all false
set_option maxRecDepth 100000
set_option maxHeartbeats 4000000
namespace Co
open PySem PySem.Spec PyProof.Rows L2 LamX
section
variable {X : Cx} {pins : List (Addr × Obj)} {σ : L2.St} {H HZ : Hp} {s : Shared}
theorem lam_made {T : List (Addr × Str)} {c P : Addr} {params : Arguments} {body : Expr} {scope : Scope} {pos : Pos} {E : Value → Shared → Prop} {Q : Value → Shared → Prop} (I : Inv X pins σ H s) (TB : TabB X.base X.mg c P) (hcode : X.env.code = .ref c)
    (hm : (P, X.env.qual ++ "<lambda>") ∈ T) (hu : ∀ p ∈ T, p.1 = P → p.2 = X.env.qual ++ "<lambda>") (hT : Tabs T H) (hdef : defaultsOf params X.env = ([], [])) (hfree : ∀ y ∈ scope.names, y.2 = .free → ∃ c, X.env.cells.lookup y.1 = some c)
    (h : ∀ (f c' : Addr) (pm ctv : Value) (H1 : Hp) (s' : Shared), Inv X pins σ H1 s' → ExtN H H1 → (∀ a, H1 a = none → H a = none) → Tabs T H1 →
      s'.heap.get? f = some (PySem.W.kla_obj "<lambda>" (X.env.qual ++ "<lambda>") params body scope (cloFrom X.env.cells scope.names []) pm c' ctv) → H1 f = none → f ∉ frs X.stack → H1 c' = some (CodeO c' (X.env.qual ++ "<lambda>")) → Q (.ref f) s') :
    wpAny (model X.prog X.w) X.A (eval (.Lambda params body scope pos) X.env) Q E s := by
  obtain ⟨ps, hP, ht, ha⟩ := hT _ hm
  have hP' : s.heap.get? P = some { cls := .none, data := .fields ps } := I.hok P _ hP
  have out : ∀ f, s.heap.objs.size ≤ f → f ∉ frs X.stack := fun f hf z => by
    rcases List.mem_cons.mp (I.stkSub _ z) with e | e
    · have h1 := I.lt
      rw [← e] at h1
      exact absurd (Nat.lt_of_lt_of_le h1 hf) (Nat.lt_irrefl _)
    · exact I.nofs hf e
  refine PySem.W.kla_eval hdef ?_
  cases hc : codeAmong pos ps.toList with
  | some cv =>
    obtain ⟨c', rfl, hco⟩ := ha pos cv hc
    refine PySem.W.kla_makeFunctionHit (mg := X.mg) (c := c) (P := P) (ps := ps) (closure_ok hfree) I.ok.glob (I.mod.glob.keeps I.bk) hcode (TB.code.keeps I.bk) hP' ht hc (TB.bm.keeps I.bk) fun ctv h' tk hx hsz => ?_
    exact h h'.objs.size c' ((X.mg "__name__").getD .none) ctv H _ (I.kept (t' := tk) fun b o e => Heap.get?_push_of_some _ (hx b o e)) (ExtN.refl H) (fun _ z => z) hT (Heap.get?_push_size _ rfl) (I.hok.fresh hsz) (out _ hsz) hco
  | none =>
    refine PySem.W.kla_makeFunction (mg := X.mg) (c := c) (P := P) (ps := ps) (closure_ok hfree) I.ok.glob (I.mod.glob.keeps I.bk) hcode (TB.code.keeps I.bk) hP' ht hc TB.gP (TB.bm.keeps I.bk) fun c' ctv h' tk hx hge hlt hrec htb => ?_
    obtain ⟨c2, oc, vs, t, e2, hoc, hd, hv⟩ := hrec
    cases e2
    have hsz : s.heap.objs.size ≤ h'.objs.size := Nat.le_trans hge (Nat.le_of_lt hlt)
    have nC : H c' = none := I.hok.fresh hge
    have I1 := inv_table (t' := tk) (more := #[rawInt pos.line, rawInt pos.col, .ref c']) (h' := h'.push (PySem.W.kla_obj "<lambda>" (X.env.qual ++ "<lambda>") params body scope (cloFrom X.env.cells scope.names []) ((X.mg "__name__").getD .none) c' ctv)) I hP
      (fun b o hb e => Heap.get?_push_of_some _ (hx b o hb e)) (Heap.get?_push_of_some _ htb) hge ⟨oc, vs, t, Heap.get?_push_of_some _ hoc, hd, hv⟩
    generalize hq : ps ++ #[rawInt pos.line, rawInt pos.col, .ref c'] = ps2 at I1
    have eL : ps2.toList = ps.toList ++ [rawInt pos.line, rawInt pos.col, .ref c'] := by rw [← hq]; simp
    have hE : ExtN H (upd (upd H P (.tbl ps2)) c' (CodeO c' (X.env.qual ++ "<lambda>"))) := fun b o e n => by
      rw [upd_ne (ne_of_none e nC), upd_ne (fun z => n ps (Option.some.inj (e.symm.trans (by rw [z]; exact hP))))]
      exact e
    refine h h'.objs.size c' ((X.mg "__name__").getD .none) ctv _ _ I1 hE (fun a e => ?_) (fun p hp => ?_) (Heap.get?_push_size _ rfl) ?_ (out _ hsz) upd_same
    · by_cases h1 : a = c'
      · rw [h1]; exact nC
      · rw [upd_ne h1] at e
        by_cases h2 : a = P
        · rw [h2, upd_same] at e; cases e
        · rw [upd_ne h2] at e; exact e
    · by_cases hb : p.1 = P
      · rw [hu p hp hb, hb]
        refine ⟨ps2, by rw [upd_ne (ne_of_none hP nC), upd_same], by rw [eL]; exact PySem.TriplesOk_snoc _ _ _ _ ht, fun p' cv hcv => ?_⟩
        rw [eL] at hcv
        rcases among_app _ ht hcv with z | z
        · obtain ⟨c0, e1, e2⟩ := ha p' cv z
          exact ⟨c0, e1, hE _ _ e2 codeO_ne⟩
        · exact ⟨c', z, upd_same⟩
      · obtain ⟨ps', a1, a2, a3⟩ := hT p hp
        refine ⟨ps', by rw [upd_ne (ne_of_none a1 nC), upd_ne hb]; exact a1, a2, fun p' cv hcv => ?_⟩
        obtain ⟨c0, e1, e2⟩ := a3 p' cv hcv
        exact ⟨c0, e1, hE _ _ e2 codeO_ne⟩
    · rw [upd_ne (Nat.ne_of_gt hlt), upd_ne (Nat.ne_of_gt (Nat.lt_of_lt_of_le (Heap.lt_size hP') hsz))]
      exact I.hok.fresh hsz
def lamN (X : Cx) (A : Around) (outer : List Env) (s : Shared) (H : Hp) (E : XK) (scope : Scope) (f c' : Addr) : Cx :=
  (lamCx X A outer s H E scope f c').wish fun e s' => wpAny (model X.prog X.w) (A.deeper (lamEnv X scope s.heap.objs.size f c')) (leaving (lamEnv X scope s.heap.objs.size f c') e) (fun _ s'' => L2N.CX X.prog X.w outer H s E e s'') (fun e' s'' => L2N.CX X.prog X.w outer H s E e' s'') s'
theorem lamN_takes {A : Around} {outer : List Env} {H : Hp} {E : XK} {scope : Scope} {f c' : Addr} : L2N.Takes (lamN X A outer s H E scope f c') (fun cls d _ H => E cls d H) :=
  L2N.takes_of rfl rfl rfl rfl
theorem pe_actN {CXg : CXT} {Eg : XK} {Ng : List Str} {qg : Str} {sg : Scope} {g f c' : Addr} {cdg pm ctv : Value} {params : Arguments} {body : Expr} {scope : Scope} {k i : Nat} {a : Str} {pn : List (Addr × Obj)} {xe : Value → Shared → Prop} {W : WX} {tb : XK → TE} {p1 p2 : Pos}
    (I : Inv X pins σ H s) (L : LamS X.env.scope scope) (hf : s.heap.get? f = some (PySem.W.kla_obj "<lambda>" (X.env.qual ++ "<lambda>") params body scope (cloFrom X.env.cells scope.names []) pm c' ctv)) (hfn : H f = none) (hfr : f ∉ frs X.stack)
    (hbind : bindArgs (PySem.W.kla_fn "<lambda>" (X.env.qual ++ "<lambda>") params body scope (cloFrom X.env.cells scope.names []) pm (.ref c') ctv) ⟨[], []⟩ = pure [])
    (tk : L2N.Takes ((cxOf CXg X.prog X.w X.K X.mg X.base Ng qg sg g cdg X.A X.stack s H Eg).tr pn xe) W) (hr : Room (k + 1) (X.A.deeper (envOfC qg sg s.heap.objs.size g cdg)))
    (hbody : ∀ (A : Around) (outer : List Env) (s : Shared) (H : Hp) (E : XK), Room k (A.deeper (lamEnv X scope s.heap.objs.size f c')) → PE (lamN X A outer s H E scope f c') body (tb E))
    (hN : Ng[i]? = some a) (hv : Vis sg a) (hd : (a == ("__debug__" : Str)) = false) (hcd : (a == ("__classdict__" : Str)) = false) :
    PE ((cxOf CXg X.prog X.w X.K X.mg X.base Ng qg sg g cdg X.A X.stack s H Eg).tr pn xe) (.Call (.Name a p1) [] [] p2)
      (fun σZ HZ Q => σZ[i]? = some (some (.ref f)) ∧ HZ c' = some (CodeO c' (X.env.qual ++ "<lambda>")) ∧ tb (WE W σZ) σ HZ Q) := by
  refine ⟨fun pinsZ sZ σZ HZ Q IZ ⟨hs, hc, ht⟩ => ?_⟩
  refine wpAny_Call_Name_kw (thn ((pe_var (pos := p1) (i := i) hN hv hd hcd).run pinsZ sZ σZ HZ (fun v H1 => v = .ref f ∧ H1 = HZ) IZ ⟨.ref f, hs, rfl, rfl⟩) fun u s1 ⟨v, H1, I1, r1, q1⟩ => ?_)
  obtain ⟨ev, eH⟩ := q1
  subst ev
  rw [eH] at I1
  obtain rfl : u = Value.ref f := r1
  have of1 := I1.base.keep f _ hf hfn hfr (fun z => nomatch (show f ∈ ([] : List Addr) from z))
  refine PySem.W.callWith_F0 ⟨_, _, _, _, of1⟩ ?_
  have un : Un (frs X.stack) [] H HZ s.heap s1.heap := I1.base
  obtain ⟨⟨oc, vs, t, hoc, hdc, hvc⟩, _, _⟩ := I1.hok c' _ hc
  have rc : codeAny (model X.prog X.w) (X.A.deeper (envOfC qg sg s.heap.objs.size g cdg)) (.call (.ref f) ⟨[], []⟩) (CR (L2N.CX X.prog X.w) (envOfC qg sg s.heap.objs.size g cdg :: X.stack) X.prog X.w HZ s1 Q (WE W σZ)) s1 := by
    refine PySem.W.kla_callFunE hr.depth of1 rfl L.co L.gen rfl ⟨c', oc, vs, t, rfl, hoc, hdc, hvc⟩ ?_
    rw [hbind]
    refine wpAny_pure (wpAny_newFunctionEnv (fun y hy => (L.own y hy).2) (fun y hy => absurd hy (by simp)) (fun h₁ hns hsb => ⟨I1.nolimit.fresh _ hsb, ?_⟩) L.kind)
    show codeAny _ _ (.expr body (lamEnv X scope s1.heap.objs.size f c')) _ _
    have kp : ∀ b o, s1.heap.get? b = some o → h₁.get? b = some o := fun b o e => hsb.extBut b o (Nat.ne_of_lt (Heap.lt_size e)) (Heap.get?_push_of_some _ e)
    have J0 : Inv (lamCx X (X.A.deeper (envOfC qg sg s.heap.objs.size g cdg)) (envOfC qg sg s.heap.objs.size g cdg :: X.stack) s1 HZ (WE W σZ) scope f c') [] σ HZ { s1 with heap := h₁, toks := s1.toks + ([] : List (Str × Value)).length } :=
      lam_start2 I L I1.env0 hr.hd un hns kp
    have J := J0.wish fun e s' => wpAny (model X.prog X.w) ((X.A.deeper (envOfC qg sg s.heap.objs.size g cdg)).deeper (lamEnv X scope s1.heap.objs.size f c')) (leaving (lamEnv X scope s1.heap.objs.size f c') e) (fun _ s'' => L2N.CX X.prog X.w (envOfC qg sg s.heap.objs.size g cdg :: X.stack) HZ s1 (WE W σZ) e s'') (fun e' s'' => L2N.CX X.prog X.w (envOfC qg sg s.heap.objs.size g cdg :: X.stack) HZ s1 (WE W σZ) e' s'') s'
    refine PySem.W.kla_codeExpr (wpAny_mono ((hbody _ _ s1 HZ (WE W σZ) (hr.deeper _)).run [] _ _ HZ Q J ht) (fun v s' hq => ?_) fun e s' hq => hq)
    obtain ⟨w', H', J', rv, q⟩ := hq
    exact ⟨w', H', J'.os, J'.bare, J'.base, J'.hok, rv, q⟩
  refine wpAny_call (codeAny_mono rc fun r s' hq => ?_)
  cases r with
  | error e => exact L2N.passAt tk σZ pinsZ HZ s1 e s' I1 hq
  | ok fl =>
    cases fl with
    | ret u => exact I1.after hq
    | next => exact False.elim hq
    | brk => exact False.elim hq
    | cont => exact False.elim hq
end
end Co
set_option Elab.async false
set_option linter.all false
set_option maxRecDepth 100000
set_option maxHeartbeats 4000000
namespace Co
open PySem PySem.Spec PyProof.Rows L2 LamX L2H
structure Dd where
  name : Str
  params : Arguments
  scope : Scope
  names : List Str
  np : Nat
  body : Ss
  vis : List Nat
  gls : List Nat
  w : List Nat
  tr : Bool
  lams : Bool
def Dd.df (d : Dd) : Df := ⟨d.np, d.names, d.body⟩
def Dd.sc (d : Dd) : Sc := { sc := d.scope, vis := d.vis, gls := d.gls, cold := true, calls := true, act := true, lam := d.lams }
def fnScB (N P : List Str) (sc : Scope) : Bool := decide (sc.kind = .function) && (!sc.isCoroutine && (!sc.isGenerator && (decide N.Nodup && (decide (N.take P.length = P) && ((P.all fun x => match sc.names.lookup x with | some .local => true | some .cell => true | _ => false) && sc.names.all fun y => !decide (y.2 = .free))))))
theorem fnScB_ok {N P : List Str} {sc : Scope} (h : fnScB N P sc = true) : FnScope N P sc := by
  obtain ⟨h1, h2, h⟩ := and3 h
  obtain ⟨h3, h4, h⟩ := and3 h
  obtain ⟨h5, h6, h7⟩ := and3 h
  refine ⟨of_decide_eq_true h1, bnot h2, bnot h3, of_decide_eq_true h4, of_decide_eq_true h5, fun x hx => ?_, fun y hy => of_decide_eq_false (bnot (List.all_eq_true.mp h7 y hy))⟩
  have := List.all_eq_true.mp h6 x hx
  cases q : sc.names.lookup x with
  | none => rw [q] at this; cases this
  | some k =>
    rw [q] at this
    cases k with
    | «local» => exact .inl rfl
    | cell => exact .inr rfl
    | _ => cases this
def Dd.ps (d : Dd) : List Str := d.names.take d.np
def Dd.ok (d : Dd) (GN : List Str) (K : Nat → GK) : Bool := decide (d.np ≤ d.names.length) && (fnScB d.names d.ps d.scope && (visB d.names d.scope d.vis && (glsB GN d.scope d.gls && (stoB d.names d.scope d.scope d.w && okSs d.names GN K d.w d.sc d.tr d.body))))
def Dd.bn (d : Dd) (GN : List Str) : Prop := ∀ (kV doc pm : Value) (an : Option Addr) (cdv ct : Value) (us : List Value), us.length = d.ps.length → bindArgs (PySem.W.fnOf d.name d.name d.params (backSs d.names GN d.body) d.scope .none kV doc pm an cdv ct) ⟨us, []⟩ = pure (d.ps.zip us)
def Mo.var (Γ : Mo) (thk : Option (Addr × Addr × Str)) (held : List (V × D)) : Mo := { Γ with thk := thk, held := held }
def lamQ (d : Dd) : Str := (envOfC d.name d.scope 0 0 .none).qual ++ "<lambda>"
structure PF (prog : Program) (wd : World) (F : PySem.W.Frag) (mg : Str → Option Value) (base : Heap) (Γ : Mo) (GN : List Str) (K : Nat → GK) (P : Nat → Option Dd) (cls : Nat → D → Option Bool) : Prop where
  hK : Γ.K = F
  ex : Γ.exc = none
  fn : ∀ g d, P g = some d → ∃ fd, FunD F d.name d.name d.params (backSs d.names GN d.body) d.scope [] [] (Γ.at_ g) fd
  ok : ∀ g d, P g = some d → d.ok GN K = true
  bn : ∀ g d, P g = some d → d.bn GN
  kfn : ∀ g, K g = .fn → ∃ d, P g = some d
  fnk : ∀ g d, P g = some d → K g = .fn
  gf : ∀ thk held g, GFact (Γ.var thk held) GN K mg g
  isi : ∀ (Y : Cx) thk held (C : Cl), Y.K = F → C.cls = cls → ∀ t, CallR Y (.builtin "isinstance") (rIsiX (Γ.var thk held) K C t)
  exm : ∀ c n g b, K g = .cls → cls g (.exc c n) = some b → PySem.W.exmOne F (.ref (Γ.at_ c)) (.ref (Γ.at_ g)) = some b
  isiS : ∀ (X : Cx) thk held (C : Cl), X.K = F → C.cls = cls → ∀ (a : Addr) (oe : Obj) (c : Nat) (n : Int) (pn : List (Addr × Obj)), L2N.Zn (.ref (Γ.at_ c)) none oe → (∃ vs, oe.data = .fields vs) → (∃ g b, cls g (.exc c n) = some b) →
    ∀ Y, Like (X.suite a ((a, oe) :: pn)) Y → ∀ t, CallR Y (.builtin "isinstance") (rIsiX ((Γ.var thk held).hot a c n) K C t)
  rai : ∀ (X : Cx), X.K = F → X.mg = mg → ∀ g x k gp sp cp, K g = .cls → Gl X (nm GN g) → (nm GN g == ("__debug__" : Str)) = false → L2N.PMk X (.Call (.Name (nm GN g) gp) [.Constant (.str x) k sp] [] cp) (fun _ H Q => Q (.ref (Γ.at_ g)) none H)
  tab : ∀ g d, P g = some d → d.lams = true → ∀ oc od fd osl, F.lookup (Γ.at_ g) = some ⟨oc, od, .func fd, osl⟩ → ∃ c Pt, fd.code = .ref c ∧ TabB base mg c Pt ∧ (Pt, lamQ d) ∈ Γ.T ∧ ∀ p ∈ Γ.T, p.1 = Pt → p.2 = lamQ d
section
variable {prog : Program} {wd : World} {F : PySem.W.Frag} {mg : Str → Option Value} {base : Heap} {Γ : Mo} {GN : List Str} {K : Nat → GK} {P : Nat → Option Dd} {cls : Nat → D → Option Bool}
def Pd (P : Nat → Option Dd) (g : Nat) : Option Df := (P g).map Dd.df
theorem run_len {l : Bool} {wf n g : Nat} {d : Dd} {ds : List D} {t : St2} (hd : P g = some d) (hl : ds.length ≠ d.np) : run (Pd P) cls wf l n g ds t = none := by
  cases n with
  | zero => rfl
  | succ n =>
    unfold run
    have e : Pd P g = some d.df := by unfold Pd; rw [hd]; rfl
    rw [e]
    show bodyM _ d.df ds t = none
    unfold bodyM
    rw [if_neg (show ¬ ds.length = d.df.np from hl)]
    rfl
def Lv (l : Bool) (prog : Program) (wd : World) (F : PySem.W.Frag) (mg : Str → Option Value) (base : Heap) (Γ : Mo) (GN : List Str) (P : Nat → Option Dd) (c : Nat → List D → M D) (k : Nat) : Prop :=
  ∀ thk held, (l = true → thk = none) → ∀ g d, P g = some d → ∃ fd, FunD F d.name d.name d.params (backSs d.names GN d.body) d.scope [] [] (Γ.at_ g) fd ∧ FnOk prog wd F mg base (L2N.CX prog wd) k (Γ.at_ g) fd d.ps (spOf (Γ.var thk held) (c g) d.ps.length) ∧ Binds F fd d.ps [] ∧ ∀ ds t, ds.length ≠ d.ps.length → c g ds t = none
theorem ps_len (pf : PF prog wd F mg base Γ GN K P cls) {g : Nat} {d : Dd} (hd : P g = some d) : d.ps.length = d.np := by
  have h := of_decide_eq_true (and2 (pf.ok g d hd)).1
  show (d.names.take d.np).length = d.np
  rw [List.length_take]
  omega
theorem mkCxt {X : Cx} {l : Bool} (pf : PF X.prog X.w X.K X.mg X.base Γ GN K P cls) (thk : Option (Addr × Addr × Str)) (held : List (V × D)) (hl : l = true → thk = none) {N : List Str} {C : Cl} {W : WX} {s : Sc} {k : Nat} (hC : C.cls = cls) (hf : ∀ g, C.fn g = (P g).isSome)
    (lv : Lv l X.prog X.w X.K X.mg X.base Γ GN P C.c k) (hr : Room k X.A) (hcalm : X.calm = true) (hN : X.N = N) (nd : N.Nodup) (tk : L2N.Takes X W) (hsc : X.env.scope = s.sc) (hv : visB N s.sc s.vis = true) (hg : glsB GN s.sc s.gls = true)
    (act : s.act = true → ∀ (W' : WX) (pn : List (Addr × Obj)) (xe : Value → Shared → Prop), L2N.Takes (X.tr pn xe) W' → ∀ i gp p, i ∈ s.vis → PE (X.tr pn xe) (.Call (.Name (nm N i) gp) [] [] p) (rd (Γ.var thk held) W' false (ev C (.act i gp p))))
    (lam : s.lam = true → ∀ (Y : Cx) (W' : WX) (s' : Sc), Sib X Y → L2N.Takes Y W' → Y.env.scope = s'.sc → (∀ g ∈ s'.gls, s'.sc.names.lookup (nm GN g) = some .globalImplicit ∧ (nm GN g == ("__debug__" : Str)) = false ∧ nm GN g ≠ "__name__") →
      ∀ g ps body lsc vis gls gp lp p, okE N GN K s' (.lam g ps body lsc vis gls gp lp p) = true → PE Y (back N GN (.lam g ps body lsc vis gls gp lp p)) (rd (Γ.var thk held) W' false (ev C (.lam g ps body lsc vis gls gp lp p)))) :
    Cxt (Γ.var thk held) N GN K C W s X where
  hK := pf.hK.symm
  md := .inl hcalm
  cold := fun _ => hcalm
  hu := by have := hr.un; omega
  hN := hN
  nd := nd
  tk := tk
  sc := hsc
  gf := fun g => pf.gf thk held g
  isi := fun Y h t => pf.isi Y thk held C h.K hC t
  fns := fun _ g => by
    cases q : P g with
    | none => exact .inl ⟨fun z => (by obtain ⟨d, e⟩ := pf.kfn g z; rw [q] at e; cases e), (by rw [hf, q]; rfl)⟩
    | some d =>
      obtain ⟨fd, -, h1, h2, h3⟩ := lv thk held hl g d q
      exact .inr ⟨pf.fnk g d q, k, fd, d.ps, h1, hr, h2, h3⟩
  vis := visB_ok hv
  gls := glsB_ok hg
  act := act
  lam := lam
theorem pe_void {X : Cx} {Γ : Mo} {W : WX} {e : Expr} {fr : Bool} {m : En → M D} (h : ∀ env s, m env s = none) : PE X e (rd Γ W fr m) := ⟨fun pins s σ H Q I ⟨env, G, t, er, k, q⟩ => by
  rw [h] at q
  exact (show False from q).elim⟩
section
variable {G : Gh} {H : Hp} {thk : Addr × Addr × Str} {held : List (V × D)} {s : St2}
mutual
theorem Rp.var (h0 : Γ.thk = none) : ∀ {v : V} {d : D}, Rp Γ G H v d → Rp (Γ.var (some thk) held) G H v d
  | _, _, .non => .non
  | _, _, .bl b => .bl b
  | _, _, .int i => .int i
  | _, _, .str x => .str x
  | _, _, .lst z h r => .lst z h (Rps.var h0 r)
  | _, _, .tup h r => .tup h (Rps.var h0 r)
  | _, _, .cup h => .cup h
  | _, _, .fn i => .fn (Γ := Γ.var (some thk) held) i
  | _, _, .thk h => by rw [h0] at h; cases h
  | _, _, .exc h => .exc h
  | _, _, .scr h => .scr h
theorem Rps.var (h0 : Γ.thk = none) : ∀ {vs : List V} {ds : List D}, Rps Γ G H vs ds → Rps (Γ.var (some thk) held) G H vs ds
  | _, _, .nil => .nil
  | _, _, .cons h r => .cons (Rp.var h0 h) (Rps.var h0 r)
end
mutual
theorem Rp.unvar : ∀ {v : V} {d : D}, d.noth = true → Rp (Γ.var (some thk) held) G H v d → Rp Γ G H v d
  | _, _, _, .non => .non
  | _, _, _, .bl b => .bl b
  | _, _, _, .int i => .int i
  | _, _, _, .str x => .str x
  | _, _, f, .lst z h r => .lst z h (Rps.unvar (by simpa [D.noth] using f) r)
  | _, _, f, .tup h r => .tup h (Rps.unvar (by simpa [D.noth] using f) r)
  | _, _, _, .cup h => .cup h
  | _, _, _, .fn i => .fn (Γ := Γ) i
  | _, _, f, .thk h => by simp [D.noth] at f
  | _, _, _, .exc h => .exc h
  | _, _, _, .scr h => .scr h
theorem Rps.unvar : ∀ {vs : List V} {ds : List D}, D.noths ds = true → Rps (Γ.var (some thk) held) G H vs ds → Rps Γ G H vs ds
  | _, _, _, .nil => .nil
  | _, _, f, .cons h r => by
    simp [D.noths] at f
    exact .cons (Rp.unvar f.1 h) (Rps.unvar f.2 r)
end
mutual
theorem Rp.nox (h0 : Γ.exc = none) : ∀ {v : V} {d : D}, Rp Γ G H v d → d.nox = true
  | _, _, .non => rfl
  | _, _, .bl b => rfl
  | _, _, .int i => rfl
  | _, _, .str x => rfl
  | _, _, .lst z h r => by rw [D.nox]; exact Rps.nox h0 r
  | _, _, .tup h r => by rw [D.nox]; exact Rps.nox h0 r
  | _, _, .cup h => rfl
  | _, _, .fn i => rfl
  | _, _, .thk h => rfl
  | _, _, .exc h => by rw [h0] at h; cases h
  | _, _, .scr h => rfl
theorem Rps.nox (h0 : Γ.exc = none) : ∀ {vs : List V} {ds : List D}, Rps Γ G H vs ds → D.noxs ds = true
  | _, _, .nil => rfl
  | _, _, .cons h r => by rw [D.noxs, Rp.nox h0 h, Rps.nox h0 r]; rfl
end
end
theorem start_er {Γ : Mo} {G : Gh} {H : Hp} {d : Dd} {vs : List V} {ds : List D} (r : Rps Γ G H vs ds) (hl : ds.length ≤ d.names.length) : ER Γ G H (enter d.df ds) (L2.start d.names vs) := by
  have hlen := r.length
  unfold enter L2.start
  refine ⟨by simp [Dd.df]; omega, fun i sl h => ?_, fun i j p as bs h1 h2 m1 m2 _ _ => ?_⟩
  · by_cases hi : i < ds.length
    · rw [List.getElem?_append_left (by simpa using hi), List.getElem?_map] at h
      cases q : ds[i]? with
      | none => rw [q] at h; cases h
      | some d0 =>
        rw [q] at h
        cases h
        obtain ⟨v, hv, rv⟩ := r.get q
        refine ⟨v, ?_, rv⟩
        rw [List.getD_eq_getElem?_getD, List.getElem?_append_left (by rw [List.length_map, hlen]; exact hi), List.getElem?_map, hv]
        rfl
    · rw [List.getElem?_append_right (by simpa using hi), List.getElem?_replicate] at h
      split at h
      · cases h; trivial
      · cases h
  · exfalso
    by_cases hi : i < ds.length
    · rw [List.getElem?_append_left (by simpa using hi), List.getElem?_map] at h1
      cases q : ds[i]? with
      | none => rw [q] at h1; cases h1
      | some d0 => rw [q] at h1; cases h1; cases m1
    · rw [List.getElem?_append_right (by simpa using hi), List.getElem?_replicate] at h1
      split at h1 <;> cases h1
      cases m1
theorem start_eo {H0 : Hp} {d : Dd} {vs : List V} {ds : List D} : EO H0 (enter d.df ds) (L2.start d.names vs) := fun i as p h1 m1 _ => by
  exfalso
  unfold enter at h1
  by_cases hi : i < ds.length
  · rw [List.getElem?_append_left (by simpa using hi), List.getElem?_map] at h1
    cases q : ds[i]? with
    | none => rw [q] at h1; cases h1
    | some d0 => rw [q] at h1; cases h1; cases m1
  · rw [List.getElem?_append_right (by simpa using hi), List.getElem?_replicate] at h1
    split at h1 <;> cases h1
    cases m1
theorem body_start {Γ : Mo} {G : Gh} {H : Hp} {d : Dd} {vs : List V} {ds : List D} {s : St2} {C : Cl} {Q : VK} {E : XK} (r : Rps Γ G H vs ds) (k : SOk Γ G H s) (hl : ds.length ≤ d.names.length) (q : Post Γ (fun c d _ h => E c d h) [] G H false (bodyM C d.df ds s) Q) :
    rdS Γ (fun c d _ h => E c d h) G H (exs C d.body) { nx := fun _ H' => Q .non H', rt := Q } (L2.start d.names vs) H := by
  refine ⟨enter d.df ds, G, s, ⟨start_er r hl, start_eo, k, .refl _ _⟩, ?_⟩
  unfold bodyM at q
  by_cases hn : ds.length = d.df.np
  · rw [if_pos hn] at q
    have q : Post Γ (fun c d _ h => E c d h) [] G H false (M.bind (exs C d.body (enter d.df ds)) (fun r => match r.1 with | .nx => M.pure .non | .ret x => M.pure x | _ => M.no) s) Q := q
    unfold M.bind at q
    cases e : exs C d.body (enter d.df ds) s with
    | none => rw [e] at q; exact q
    | some z =>
      obtain ⟨r, s'⟩ := z
      rw [e] at q
      cases r with
      | ex g n => exact fun cls da σ G' H' g' k' x => (show ∀ cls da G' H', Grow G H G' H' → SOk Γ G' H' s' → ExR Γ H' g n cls da → E cls da H' from q) cls da G' H' g' k' x
      | ok a =>
        obtain ⟨f, env'⟩ := a
        cases f with
        | nx => exact fun σ G' H' er eo g' k' gz => (show ∀ v G' H', Grow G H G' H' → SOk Γ G' H' s' → Rp Γ G' H' v .non → Q v H' from q) .non G' H' g' k' .non
        | ret x => exact fun v G' H' g' k' rv => (show ∀ v G' H', Grow G H G' H' → SOk Γ G' H' s' → Rp Γ G' H' v x → Q v H' from q) v G' H' g' k' rv
        | brk => exact (show False from q).elim
        | cnt => exact (show False from q).elim
  · rw [if_neg hn] at q
    exact (show False from q).elim
end
end Co
set_option Elab.async false
set_option linter.all false
set_option maxRecDepth 100000
set_option maxHeartbeats 4000000
namespace Co
open PySem PySem.Spec PyProof.Rows L2 LamX L2H
def heldOf (env : En) (σ : L2.St) : List (V × D) := (List.range env.length).filterMap fun i => match env[i]?, σ.getD i none with
  | some (Sl.val d), some v => some (v, d)
  | _, _ => none
section
variable {Γ Γ1 : Mo} {G : Gh} {H : Hp} {env : En} {σ : L2.St}
theorem held_rp (er : ER Γ G H env σ) : ∀ p ∈ heldOf env σ, Rp Γ G H p.1 p.2 := fun p hp => by
  obtain ⟨i, _, e⟩ := List.mem_filterMap.mp hp
  cases q : env[i]? with
  | none => rw [q] at e; cases e
  | some sl =>
    rw [q] at e
    cases sl with
    | val d =>
      obtain ⟨v, e1, r⟩ := er.at_ i _ q
      rw [e1] at e
      cases e
      exact r
    | un => cases e
    | own _ => cases e
    | dic _ => cases e
theorem held_er (er : ER Γ G H env σ) {G' : Gh} {H' : Hp} (h : ∀ p ∈ heldOf env σ, Rp Γ1 G' H' p.1 p.2) : ER Γ1 G' H' env.vals σ := by
  have vals : ∀ i sl, env.vals[i]? = some sl → (sl = Sl.un ∨ ∃ d, sl = Sl.val d ∧ env[i]? = some (Sl.val d)) := fun i sl h => by
    unfold En.vals at h
    rw [List.getElem?_map] at h
    cases q : env[i]? with
    | none => rw [q] at h; cases h
    | some s0 =>
      rw [q] at h
      cases s0 with
      | un => cases h; exact .inl rfl
      | own _ => cases h; exact .inl rfl
      | dic _ => cases h; exact .inl rfl
      | val d => cases h; exact .inr ⟨d, rfl, q⟩
  refine ⟨by unfold En.vals; rw [List.length_map]; exact er.len, fun i sl hs => ?_, fun i j p as bs h1 _ m1 _ _ _ => ?_⟩
  · rcases vals i sl hs with rfl | ⟨d, rfl, q⟩
    · trivial
    · obtain ⟨v, e1, r⟩ := er.at_ i _ q
      refine ⟨v, e1, h (v, d) (List.mem_filterMap.mpr ⟨i, List.mem_range.mpr (List.getElem?_eq_some_iff.mp q).1, ?_⟩)⟩
      rw [q, e1]
  · rcases vals i _ h1 with z | ⟨d, z, _⟩ <;> (subst z; cases m1)
theorem ExtN.z {H H1 : Hp} (e : ExtN H H1) : GrowZ G H G H1 := ⟨fun _ h => h, fun _ h => h, fun a o h t _ => e a o h (fx_tbl t)⟩
theorem ExtN.gr {H H1 : Hp} (e : ExtN H H1) (th : ∀ a, H1 a = none → H a = none) : Grow G H G H1 := ⟨fun _ h => h, fun _ h => .inl h, fun _ h => h, fun _ h => .inl h, fun a o h _ t => e a o h t, th⟩
end
section
variable {prog : Program} {wd : World} {F : PySem.W.Frag} {mg : Str → Option Value} {base : Heap} {Γ : Mo} {GN : List Str} {K : Nat → GK} {P : Nat → Option Dd} {cls : Nat → D → Option Bool}
def Ct (P : Nat → Option Dd) (cls : Nat → D → Option Bool) (wf : Nat) (c0 : Nat → List D → M D) (th : M D) : Cl := { c := c0, c0 := c0, lamf := fun _ _ => M.no, th := th, wf := wf, cls := cls, fn := fun g => (Pd P g).isSome }
def lamfOf (P : Nat → Option Dd) (cls : Nat → D → Option Bool) (wf : Nat) (c0 : Nat → List D → M D) (l : Bool) (g : Nat) (th : M D) : M D :=
  if l then (match Pd P g with
    | some d => bodyM (Ct P cls wf c0 th) d [.thk]
    | none => M.no) else M.no
def Cm (P : Nat → Option Dd) (cls : Nat → D → Option Bool) (wf : Nat) (c c0 : Nat → List D → M D) (l : Bool) : Cl := { c := c, c0 := c0, lamf := lamfOf P cls wf c0 l, th := M.no, wf := wf, cls := cls, fn := fun g => (Pd P g).isSome }
theorem pd_some (g : Nat) : (Pd P g).isSome = (P g).isSome := by unfold Pd; cases P g <;> rfl
theorem body_ok (pf : PF prog wd F mg base Γ GN K P cls) {l : Bool} (thk : Option (Addr × Addr × Str)) (held : List (V × D)) (hl : l = true → thk = none) (hnx : ∀ p ∈ held, p.2.nox = true) {g : Nat} {d : Dd} (hd : P g = some d) {C : Cl} {k : Nat} (hC : C.cls = cls) (hf : ∀ g, C.fn g = (P g).isSome)
    (lv : Lv l prog wd F mg base Γ GN P C.c k) {f : Addr} {cdv : Value} {A : Around} {outer : List Env} {s : Shared} {H : Hp} {E : XK} (hr : Room k (A.deeper (envOfC d.name d.scope s.heap.objs.size f cdv)))
    (act : ∀ (W' : WX) (pn : List (Addr × Obj)) (xe : Value → Shared → Prop), L2N.Takes ((cxOf (L2N.CX prog wd) prog wd F mg base d.names d.name d.scope f cdv A outer s H E).tr pn xe) W' → ∀ i gp p, i ∈ d.vis → PE ((cxOf (L2N.CX prog wd) prog wd F mg base d.names d.name d.scope f cdv A outer s H E).tr pn xe) (.Call (.Name (nm d.names i) gp) [] [] p) (rd (Γ.var thk held) W' false (ev C (.act i gp p))))
    (lam : d.lams = true → ∀ (Y : Cx) (W' : WX) (s' : Sc), Sib (cxOf (L2N.CX prog wd) prog wd F mg base d.names d.name d.scope f cdv A outer s H E) Y → L2N.Takes Y W' → Y.env.scope = s'.sc → (∀ g ∈ s'.gls, s'.sc.names.lookup (nm GN g) = some .globalImplicit ∧ (nm GN g == ("__debug__" : Str)) = false ∧ nm GN g ≠ "__name__") →
      ∀ g ps body lsc vis gls gp lp p, okE d.names GN K s' (.lam g ps body lsc vis gls gp lp p) = true → PE Y (back d.names GN (.lam g ps body lsc vis gls gp lp p)) (rd (Γ.var thk held) W' false (ev C (.lam g ps body lsc vis gls gp lp p))))
    (G0 : Gh) (H0 : Hp) : PSs (cxOf (L2N.CX prog wd) prog wd F mg base d.names d.name d.scope f cdv A outer s H E) (backSs d.names GN d.body) (rdS (Γ.var thk held) (fun cls d _ H => E cls d H) G0 H0 (exs C d.body)) := by
  obtain ⟨o1, o2, o⟩ := and3 (pf.ok g d hd)
  obtain ⟨o3, o4, o⟩ := and3 o
  obtain ⟨o5, o6⟩ := and2 o
  have S := fnScB_ok o2
  have cx : Cxt (Γ.var thk held) d.names GN K C (fun cls d _ H => E cls d H) d.sc (cxOf (L2N.CX prog wd) prog wd F mg base d.names d.name d.scope f cdv A outer s H E) :=
    mkCxt (X := cxOf (L2N.CX prog wd) prog wd F mg base d.names d.name d.scope f cdv A outer s H E) (l := l) pf thk held hl hC hf lv hr rfl rfl S.nd (L2N.takes_of rfl rfl rfl rfl) rfl o3 o4 (fun _ => act) lam
  have sx : Sxt (Γ.var thk held) d.names GN K C (fun cls d _ H => E cls d H) d.sc d.w (cxOf (L2N.CX prog wd) prog wd F mg base d.names d.name d.scope f cdv A outer s H E) := {
    c := cx
    own := PassesOwn.leaving
    sto := stoB_ok cx.hN S.nd (.inl rfl) rfl (fun _ _ => rfl) o5
    kf := by show (if d.scope.kind.isAnnotationScope then ScopeKind.function else d.scope.kind) = .function; rw [S.kind]; rfl
    rai := fun _ g x k gp sp cp hk hg => by
      obtain ⟨a, b, _⟩ := cx.gl hg
      exact pf.rai _ rfl rfl g x k gp sp cp hk a b }
  refine s_Ss d.body (Γ.var thk held) _ d.sc _ d.tr sx (fun _ => ?_) o6
  exact {
    stk := rfl
    fr := rfl
    ex := pf.ex
    held := hnx
    exm := fun c n g b hk e => pf.exm c n g b hk (by rw [← hC]; exact e)
    isi := fun a oe c n pn hz hd hk Y hY t => pf.isiS _ thk held C rfl hC a oe c n pn hz hd (by rw [← hC]; exact hk) Y hY t }
theorem post_callW {Γ : Mo} {W : WX} {σ : L2.St} {G : Gh} {H : Hp} {fr : Bool} {r : Option (Res D × St2)} {Q : VK} (h : Post Γ W σ G H fr r Q) (σ' : L2.St) : Post Γ (fun c d _ h => WE W σ c d h) σ' G H fr r Q := by
  cases r with
  | none => exact h
  | some q =>
    obtain ⟨r, s'⟩ := q
    cases r with
    | ok a => exact h
    | ex g n => exact h
theorem noPar_ok {ps : Arguments} (h : noPar ps = true) : ps = ⟨[], [], none, [], [], none, []⟩ := by
  obtain ⟨a, b, c, d, e, f, g⟩ := ps
  cases a <;> cases b <;> cases c <;> cases d <;> cases e <;> cases f <;> cases g <;> first | rfl | cases h
theorem e_lam {Y : Cx} {W : WX} {N : List Str} {sS : Sc} (pf : PF Y.prog Y.w Y.K Y.mg Y.base Γ GN K P cls) (held : List (V × D)) {wf k : Nat} {c c0 : Nat → List D → M D} {l : Bool}
    (lv0 : Lv false Y.prog Y.w Y.K Y.mg Y.base Γ GN P c0 k) {cc Pt : Addr} (hr : Room (k + 2) Y.A)
    (hcd : Y.env.code = .ref cc) (TB : TabB Y.base Y.mg cc Pt) (hmT : (Pt, Y.env.qual ++ "<lambda>") ∈ Γ.T) (hu : ∀ p ∈ Γ.T, p.1 = Pt → p.2 = Y.env.qual ++ "<lambda>") (hN : Y.N = N) (nd : N.Nodup) (tkm : L2N.Takes Y W) (hsc : Y.env.scope = sS.sc)
    (gl : ∀ y ∈ sS.gls, sS.sc.names.lookup (nm GN y) = some .globalImplicit ∧ (nm GN y == ("__debug__" : Str)) = false ∧ nm GN y ≠ "__name__")
    (g : Nat) (ps : Arguments) (body : Co.E) (lsc : Scope) (vis gls : List Nat) (gp lp p : Pos) (ho : okE N GN K sS (.lam g ps body lsc vis gls gp lp p) = true) :
    PE Y (back N GN (.lam g ps body lsc vis gls gp lp p)) (rd (Γ.var none held) W false (ev (Cm P cls wf c c0 l) (.lam g ps body lsc vis gls gp lp p))) := by
  obtain ⟨q1, q2, q⟩ := and3 ho
  obtain ⟨q3, q4, q⟩ := and3 q
  obtain ⟨q5, q6, q⟩ := and3 q
  obtain ⟨q7, q8⟩ := and2 q
  obtain rfl := noPar_ok q7
  have hfn : K g = .fn := by cases z : K g <;> rw [z] at q3 <;> first | rfl | cases q3
  obtain ⟨dg, hdg⟩ := pf.kfn g hfn
  obtain ⟨p1, p2, p⟩ := and3 (pf.ok g dg hdg)
  obtain ⟨p3, p4, -⟩ := and3 p
  have Sg := fnScB_ok p2
  have hgl := gl g (by have z : sS.gls.contains g = true := q2; simpa using z)
  have f0 := pf.gf none held g
  unfold GFact at f0
  rw [hfn] at f0
  obtain ⟨fg, hF⟩ := pf.fn g dg hdg
  have hB : Binds Y.K fg dg.ps [] := hF.bindsN (pf.bn g dg hdg)
  obtain ⟨oc, od, dV, kV, doc, pm, an, cdvg, ct, osl, rfl, lk, hcg, -, -⟩ := hF.ex
  have L : LamS Y.env.scope lsc := by rw [hsc]; exact lamS_by q4
  refine ⟨fun pins s1 σ HM Q I h => ?_⟩
  obtain ⟨env, G, t, er, k1, q⟩ := h
  have q : Post (Γ.var none held) W σ G HM false (M.bind ((Cm P cls wf c c0 l).lamf g (ev (Ct P cls wf c0 M.no) body env.vals)) (fun d => if d.noth then M.pure d else M.no) t) Q := q
  refine wpAny_Call_Name_kw (ld_glob I (show Gl Y (nm GN g) from by show Y.env.scope.names.lookup (nm GN g) = _; rw [hsc]; exact hgl.1) f0.1 ?_ hgl.2.1)
  refine PySem.W.callWith_K (h₀ := Y.base) I.ok.mod.kin hF.kp ?_ (by rfl) (by rfl)
  show wpAny _ _ (spliced ((false, eval (.Lambda ⟨[], [], none, [], [], none, []⟩ (back N GN body) lsc lp) _) :: backTo _ (starEach [] _))) _ _ s1
  refine Calls.spliced_cons (lam_made I TB hcd hmT hu k1.tabs rfl (L.has I.ok) fun f c' pm' ctv H1 s2 I1 eN th T1 hf hfn' hfr hco => ?_)
  refine Calls.spliced_nil ⟨I1.kIn, ?_⟩
  have hl : l = true := by
    cases l with
    | true => rfl
    | false => exact (show False from q).elim
  subst hl
  have hPd : Pd P g = some dg.df := by unfold Pd; rw [hdg]; rfl
  have q : Post (Γ.var none held) W σ G HM false (M.bind (bodyM (Ct P cls wf c0 (ev (Ct P cls wf c0 M.no) body env.vals)) dg.df [.thk]) (fun d => if d.noth then M.pure d else M.no) t) Q := by
    have e : (Cm P cls wf c c0 true).lamf g (ev (Ct P cls wf c0 M.no) body env.vals) = bodyM (Ct P cls wf c0 (ev (Ct P cls wf c0 M.no) body env.vals)) dg.df [.thk] := by
      show (if true = true then (match Pd P g with | some d => bodyM (Ct P cls wf c0 _) d [.thk] | none => M.no) else M.no) = _
      rw [if_pos rfl, hPd]
    rw [e] at q
    exact q
  let held1 := heldOf env σ
  let Γ1 := Γ.var (some (f, c', Y.env.qual ++ "<lambda>")) held1
  have hrp := held_rp er
  have k2 : SOk Γ1 G H1 t := {
    cup := by
      cases t with
      | none => exact k1.cup
      | some z =>
        obtain ⟨x, y⟩ := z
        obtain ⟨a, e1, e2, n⟩ := k1.cup
        exact ⟨a, e1, eN _ _ e2 (fun _ z => nomatch z), n⟩
    tabs := T1
    thk := fun f1 c1 q1 e => by cases e; exact hco
    scr := fun a ns e => by
      rcases k1.scr a ns e with ⟨o, h4⟩ | ⟨z, h4⟩ | h4
      · exact .inl ⟨o, eN _ _ h4 (fun _ z => nomatch z)⟩
      · exact .inr (.inl ⟨z, eN _ _ h4 (fun _ z => nomatch z)⟩)
      · exact .inr (.inr h4)
    zl := fun a z => by
      obtain ⟨xs, e⟩ := k1.zl a z
      exact ⟨xs, eN _ _ e (fun _ z => nomatch z)⟩
    held := fun p hp => Rp.var (Γ := Γ.var none held) (thk := (f, c', Y.env.qual ++ "<lambda>")) (held := held1) rfl ((hrp p hp).growZ (ExtN.z eN)) }
  have gr : Grow G HM G H1 := ExtN.gr eN th
  have un : ∀ {G' : Gh} {H' : Hp} {s' : St2}, Grow G H1 G' H' → SOk Γ1 G' H' s' → SOk (Γ.var none held) G' H' s' := fun {G' H' s'} g' k' =>
    ⟨k'.cup, k'.tabs, (fun _ _ _ e => nomatch e), k'.scr, k'.zl, fun p hp => (k1.held p hp).growZ (((gr.trans g').toZ k1))⟩
  have q : Post Γ1 (fun c d _ h => WE W σ c d h) [] G H1 false (bodyM (Ct P cls wf c0 (ev (Ct P cls wf c0 M.no) body env.vals)) dg.df [.thk] t) Q := by
    unfold M.bind at q
    cases e : bodyM (Ct P cls wf c0 (ev (Ct P cls wf c0 M.no) body env.vals)) dg.df [.thk] t with
    | none => rw [e] at q; exact q
    | some z =>
      obtain ⟨r, s'⟩ := z
      rw [e] at q
      cases r with
      | ex g n => exact fun cls da G' H' g' k' x => (show ∀ cls da G' H', Grow G HM G' H' → SOk (Γ.var none held) G' H' s' → ExR (Γ.var none held) H' g n cls da → W cls da σ H' from q) cls da G' H' (gr.trans g') (un g' k') x
      | ok a =>
        have q : Post (Γ.var none held) W σ G HM false ((if a.noth then M.pure a else M.no) s') Q := q
        by_cases hn : a.noth = true
        · rw [if_pos hn] at q
          exact fun v G' H' g' k' r => (show ∀ v G' H', Grow G HM G' H' → SOk (Γ.var none held) G' H' s' → Rp (Γ.var none held) G' H' v a → Q v H' from q) v G' H' (gr.trans g') (un g' k') (Rp.unvar (Γ := Γ.var none held) hn r)
        · rw [if_neg hn] at q; exact (show False from q).elim
  have hnp : dg.ps.length = 1 := by
    rw [ps_len pf hdg]
    unfold bodyM at q
    by_cases hn : ([D.thk] : List D).length = dg.df.np
    · exact hn.symm
    · rw [if_neg hn] at q; exact (show False from q).elim
  have rc : codeAny (model Y.prog Y.w) Y.A (.call (.ref (Γ.at_ g)) ⟨[.ref f], []⟩) (CR (L2N.CX Y.prog Y.w) Y.stack Y.prog Y.w H1 s2 Q (WE W σ)) s2 := by
    have hb := hB s2 [.ref f] I1.kIn (by rw [hnp]; rfl)
    refine run_ofS (N := dg.names) (ps := dg.ps) (us := [.ref f]) (vs := [.ref f]) lk hcg Sg hr I1.env0 hb (.cons rfl .nil) (by rw [hnp]; rfl) fun hr' => ?_
    refine ⟨_, body_ok pf (l := false) (some (f, c', Y.env.qual ++ "<lambda>")) held1 (fun z => nomatch z) (fun p hp => Rp.nox (Γ := Γ.var none held) pf.ex (hrp p hp)) hdg (C := Ct P cls wf c0 (ev (Ct P cls wf c0 M.no) body env.vals)) rfl pd_some lv0 (hr'.mono (Nat.le_succ k)) (fun W' pn xe tk i gp p hi => ?_) (fun _ _ _ _ _ _ _ _ g ps body lsc vis gls gp lp p _ => pe_void fun env s => rfl) G H1, body_start (.cons (.thk rfl) .nil) k2 (by show 1 ≤ _; have := of_decide_eq_true p1; rw [← ps_len pf hdg, hnp] at this; exact this) q⟩
    obtain ⟨x, hx, hv, hdb, hcdb⟩ := visB_ok p3 i hi
    rw [nm_of hx]
    refine PE.imp (pe_actN (X := Y) (tb := fun E' => rd Γ1 (fun cls d _ H => E' cls d H) body.isO (ev (Ct P cls wf c0 M.no) body)) I1 L hf hfn' hfr rfl tk hr' (fun A' outer' s' H' E' hr2 => ?_) hx hv hdb hcdb) fun σZ HZ Q h => ?_
    · exact s_E body _ { sc := lsc, vis := vis, gls := gls, cold := true, calls := true, act := false, lam := false } _ (mkCxt (X := lamN Y A' outer' s' H' E' lsc f c') (l := false) pf (some (f, c', Y.env.qual ++ "<lambda>")) held1 (fun z => nomatch z) rfl pd_some lv0 hr2 rfl hN nd lamN_takes rfl q5 q6 (fun z => nomatch z) (fun z => nomatch z)) q8
    · obtain ⟨env2, G2, t2, er2, kz, qz⟩ := h
      have qz : Post Γ1 W' σZ G2 HZ false ((match env2.get i with | some .thk => ev (Ct P cls wf c0 M.no) body env.vals | _ => M.no) t2) Q := qz
      cases e : env2.get i with
      | none => rw [e] at qz; exact (show False from qz).elim
      | some d2 =>
        rw [e] at qz
        obtain ⟨v, e1, r⟩ := er2.get e
        cases d2 with
        | thk =>
          cases r with
          | thk h =>
            cases h
            exact ⟨e1, kz.thk f c' (Y.env.qual ++ "<lambda>") rfl, env.vals, G2, t2, held_er er (fun p hp => kz.held p hp), kz, post_callW (Post.weak qz body.isO) σ⟩
        | _ => exact (show False from qz).elim
  refine wpAny_call (codeAny_mono rc fun r s3 hq => ?_)
  cases r with
  | error e => exact L2N.passAt tkm σ pins H1 s2 e s3 I1 hq
  | ok fl =>
    cases fl with
    | ret u => exact I1.after hq
    | next => exact False.elim hq
    | brk => exact False.elim hq
    | cont => exact False.elim hq
theorem all_lv (pf : PF prog wd F mg base Γ GN K P cls) (wf : Nat) : ∀ n l, Lv l prog wd F mg base Γ GN P (run (Pd P) cls wf l n) (3 * n)
  | 0, l => fun thk held hl g d hd => by
    obtain ⟨fd, hF⟩ := pf.fn g d hd
    refine ⟨fd, hF, ⟨fun vs H Q E h => ?_, fun A outer s H args us vs Q E _ _ _ _ h => ?_⟩, hF.bindsN (pf.bn g d hd), fun _ _ _ => rfl⟩
    · obtain ⟨_, _, _, _, _, _, q⟩ := h
      exact (show False from q).elim
    · obtain ⟨_, _, _, _, _, _, q⟩ := h
      exact (show False from q).elim
  | n + 1, l => fun thk held hl g d hd => by
    obtain ⟨fd, hF⟩ := pf.fn g d hd
    have hB : Binds F fd d.ps [] := hF.bindsN (pf.bn g d hd)
    obtain ⟨o1, o2, o⟩ := and3 (pf.ok g d hd)
    have S := fnScB_ok o2
    have hPd : Pd P g = some d.df := by unfold Pd; rw [hd]; rfl
    obtain ⟨oc, od, dV, kV, doc, pm, an, cdv, ct, osl, rfl, lk, hcd, -, -⟩ := hF.ex
    refine ⟨_, hF, fn_of (k := 3 * n + 2) lk hcd S (fun vs H Q E h => ?_) (fun A outer s H vs Q E hr hsp => ?_), hB, fun ds t h => run_len hd (fun z => h (by rw [ps_len pf hd]; exact z))⟩
    · obtain ⟨_, _, _, _, _, hl, _⟩ := h
      exact hl
    · obtain ⟨G, ds, t, r, k, hlen, q⟩ := hsp
      have e : run (Pd P) cls wf l (n + 1) g ds = bodyM (Cm P cls wf (run (Pd P) cls wf l n) (run (Pd P) cls wf false n) l) d.df ds := by
        show (match Pd P g with | some d => _ | none => M.no) = _
        rw [hPd]
        rfl
      rw [e] at q
      have hds : ds.length ≤ d.names.length := by
        have := of_decide_eq_true o1
        rw [← r.length, hlen, ps_len pf hd]
        exact this
      refine ⟨_, body_ok pf (l := l) thk held hl (fun p hp => Rp.nox (Γ := Γ.var thk held) pf.ex (k.held p hp)) hd (C := Cm P cls wf (run (Pd P) cls wf l n) (run (Pd P) cls wf false n) l) rfl pd_some (all_lv pf wf n l) (hr.mono (by omega)) (fun W' pn xe tk i gp p hi => pe_void fun env s => ?_) (fun hls Y W' s' hY tk hsc hgl g ps body lsc vis gls gp lp p ho => ?_) G H, body_start r k hds q⟩
      · show (match env.get i with | some .thk => M.no | _ => M.no) s = none
        cases env.get i with
        | none => rfl
        | some d => cases d <;> rfl
      · cases l with
        | false => exact pe_void fun env s => rfl
        | true =>
          have := hl rfl
          subst this
          obtain ⟨c, Pt, t1, t2, t3, t4⟩ := pf.tab _ d hd hls oc od _ osl lk
          obtain ⟨y1, y2, y3, y4, y5, y6, y7, y8, y9, y10⟩ := hY
          have pf' : PF Y.prog Y.w Y.K Y.mg Y.base Γ GN K P cls := by rw [y1, y2, y3, y4, y5]; exact pf
          have lv' : Lv false Y.prog Y.w Y.K Y.mg Y.base Γ GN P (run (Pd P) cls wf false n) (3 * n) := by rw [y1, y2, y3, y4, y5]; exact all_lv pf wf n false
          exact e_lam pf' held lv' (by rw [y6]; exact hr) (by rw [y9]; exact t1) (by rw [y4, y5]; exact t2) (by rw [y10]; exact t3) (by rw [y10]; exact t4) y8 S.nd tk hsc hgl g ps body lsc vis gls gp lp p ho
end
end Co
set_option Elab.async false
set_option linter.all false
set_option maxRecDepth 100000
set_option maxHeartbeats 4000000
namespace Co
open PySem PySem.Spec PyProof.Rows L2 LamX L2H
def clsOf (K : Nat → GK) (sub : Nat → Nat → Option Bool) (t : Nat) (d : D) : Option Bool := match K t with
  | .ty T => isTy d T
  | .cls => match d with
    | .exc c _ => sub c t
    | _ => none
  | _ => none
section
variable {Γ : Mo} {G : Gh} {H : Hp}
def D.tyN : D → String
  | .non => "NoneType" | .bl _ => "bool" | .int _ => "int" | .str _ => "str" | .tup _ => "tuple" | .lst _ => "list" | _ => ""
theorem isTy_kit {d : D} {T : String} {b : Bool} (h : isTy d T = some b) : d.tyN ≠ "" ∧ kitB d.tyN T = some b := by
  unfold isTy at h
  split at h <;> first | (cases h; dsimp only [D.tyN]; exact ⟨by decide +kernel, by decide +kernel⟩) | cases h
theorem tyx_of {v : V} {d : D} (r : Rp Γ G H v d) (h : d.tyN ≠ "") : TyX Γ.K H v (.type d.tyN) := by
  cases r with
  | non => exact .base .non
  | bl b => exact .base (.bl b)
  | int i => exact .base (.int i)
  | str x => exact .base (.str x)
  | lst z e r => exact .base (.lst e)
  | tup e r =>
    rcases e with (e | ⟨o, e⟩) | ⟨o, its, n, e, c, _⟩
    · exact .base (.tup e)
    · exact .fTuple e
    · exact .kTuple e c
  | _ => exact absurd rfl h
end
def excB (K : PySem.W.Frag) (C : Addr) : Bool := decide (PySem.W.findIn K (.ref C) "__getattribute__" = some (some (.builtin "BaseException.__getattribute__"))) && (decide (PySem.W.findIn K (.ref C) "__getattr__" = some none) && (decide (PySem.W.subIn K (.ref C) (.type "BaseException") = some true) && (PySem.W.hasDictIn K C && (decide (PySem.W.findIn K (.ref C) "__class__" = some (some (.builtin "object.__class__"))) && (decide (PySem.W.specialIn K (.builtin "object.__class__") "__get__" = some (some (.builtin "getset_descriptor.__get__"))) && (decide (PySem.W.takesIn K (.builtin "object.__class__") = some true) && decide (PySem.W.mroIn K C (.type "object") = some true)))))))
theorem excB_ok {K : PySem.W.Frag} {C : Addr} (h : excB K C = true) : ExcC K C := by
  obtain ⟨h1, h2, h⟩ := and3 h
  obtain ⟨h3, h4, h⟩ := and3 h
  obtain ⟨h5, h6, h⟩ := and3 h
  obtain ⟨h7, h8⟩ := and2 h
  exact ⟨of_decide_eq_true h1, of_decide_eq_true h2, of_decide_eq_true h3, h4, of_decide_eq_true h5, of_decide_eq_true h6, of_decide_eq_true h7, of_decide_eq_true h8⟩
mutual
def valB (K : PySem.W.Frag) : D → Value → Bool
  | .int i, .int j _ => decide (i = j)
  | .bl a, .bool b => decide (a = b)
  | .str x, .str y _ => decide (x = y)
  | .non, .none => true
  | .tup l, .ref a => (match K.lookup a with
    | some ⟨c, none, .seq its _, _⟩ => decide (c = .type "tuple") && (decide (its.size ≤ sizeLine) && valBs K l its.toList)
    | _ => false)
  | _, _ => false
def valBs (K : PySem.W.Frag) : List D → List Value → Bool
  | [], [] => true
  | d :: ds, u :: us => valB K d u && valBs K ds us
  | _, _ => false
end
mutual
theorem valB_ok {K : PySem.W.Frag} : ∀ (d : D) (u : Value), valB K d u = true → ∃ v, RelV v u ∧ ∀ (Γ : Mo) G H, Γ.K = K → Rp Γ G H v d
  | .int i, u, h => by
    cases u <;> first | (simp [valB] at h; done) | skip
    rename_i j t
    have e : i = j := by simpa [valB] using h
    subst e
    exact ⟨.int i, ⟨t, rfl⟩, fun _ _ _ _ => .int i⟩
  | .bl i, u, h => by
    cases u <;> first | (simp [valB] at h; done) | skip
    rename_i j
    have e : i = j := by simpa [valB] using h
    subst e
    exact ⟨.bl i, rfl, fun _ _ _ _ => .bl i⟩
  | .str i, u, h => by
    cases u <;> first | (simp [valB] at h; done) | skip
    rename_i j t
    have e : i = j := by simpa [valB] using h
    subst e
    exact ⟨.str i, ⟨t, rfl⟩, fun _ _ _ _ => .str i⟩
  | .non, u, h => by
    cases u <;> first | (simp [valB] at h; done) | skip
    exact ⟨.non, rfl, fun _ _ _ _ => .non⟩
  | .tup l, u, h => by
    cases u <;> first | (simp [valB] at h; done) | skip
    rename_i a
    rw [valB] at h
    split at h
    · rename_i c its n sl hk
      obtain ⟨h1, h2, h3⟩ := and3 h
      obtain ⟨vs, r, rp⟩ := valBs_ok l its.toList h3
      exact ⟨.ref a, rfl, fun Γ G H e => .tup (.inr ⟨_, its, n, by rw [e]; exact hk, of_decide_eq_true h1, rfl, of_decide_eq_true h2, r⟩) (rp Γ G H e)⟩
    · cases h
  | .lst l, u, h => by cases u <;> simp [valB] at h
  | .cup, u, h => by cases u <;> simp [valB] at h
  | .fn g, u, h => by cases u <;> simp [valB] at h
  | .thk, u, h => by cases u <;> simp [valB] at h
  | .exc c n, u, h => by cases u <;> simp [valB] at h
  | .scr l, u, h => by cases u <;> simp [valB] at h
theorem valBs_ok {K : PySem.W.Frag} : ∀ (ds : List D) (us : List Value), valBs K ds us = true → ∃ vs, Vals vs us ∧ ∀ (Γ : Mo) G H, Γ.K = K → Rps Γ G H vs ds
  | [], [], h => ⟨[], .nil, fun _ _ _ _ => .nil⟩
  | [], _ :: _, h => by simp [valBs] at h
  | _ :: _, [], h => by simp [valBs] at h
  | d :: ds, u :: us, h => by
    rw [valBs] at h
    obtain ⟨h1, h2⟩ := and2 h
    obtain ⟨v, r, rp⟩ := valB_ok d u h1
    obtain ⟨vs, rs, rps⟩ := valBs_ok ds us h2
    exact ⟨v :: vs, .cons r rs, fun Γ G H e => .cons (rp Γ G H e) (rps Γ G H e)⟩
end
def kindB (K : PySem.W.Frag) (x : Str) : GK → Bool
  | .fn => He.eqO (PySem.W.nsIn K mainGlobals x) (some (some (.ref (He.ga K x)))) && PySem.W.keepIn K (.ref (He.ga K x))
  | .cls => He.eqO (PySem.W.nsIn K mainGlobals x) (some (some (.ref (He.ga K x)))) && ((He.Fa.exc x).ok K && excB K (He.ga K x))
  | .val d => (match PySem.W.nsIn K mainGlobals x with
    | some (some u) => valB K d u
    | _ => false)
  | .blt .gcd => He.eqO (PySem.W.nsIn K mainGlobals x) (some (some (.builtin "math.gcd")))
  | .blt _ => He.eqO (PySem.W.nsIn K mainGlobals x) (some none)
  | .isi => He.eqO (PySem.W.nsIn K mainGlobals x) (some none)
  | .ty _ => He.eqO (PySem.W.nsIn K mainGlobals x) (some none)
  | .rng => He.eqO (PySem.W.nsIn K mainGlobals x) (some none)
  | .enu => He.eqO (PySem.W.nsIn K mainGlobals x) (some none)
  | .zip => He.eqO (PySem.W.nsIn K mainGlobals x) (some none)
  | .no => true
def kindS (x : Str) : GK → Bool
  | .blt .gcd => true
  | .blt f => decide (bootBuiltins x = some f.val)
  | .isi => decide (bootBuiltins x = some (.builtin "isinstance"))
  | .ty t => decide (bootBuiltins x = some (.type t))
  | .rng => decide (x = "range")
  | .enu => decide (x = "enumerate")
  | .zip => decide (x = "zip")
  | _ => true
def subB (K : PySem.W.Frag) (GN : List Str) (sub : List (Nat × Nat × Bool)) : Bool := sub.all fun p => decide (PySem.W.exmOne K (.ref (He.ga K (nm GN p.1))) (.ref (He.ga K (nm GN p.2.1))) = some p.2.2) && decide (PySem.W.kitOne K (.ref (He.ga K (nm GN p.1))) (.ref (He.ga K (nm GN p.2.1))) = some p.2.2) && excB K (He.ga K (nm GN p.1))
def subOf (sub : List (Nat × Nat × Bool)) (c g : Nat) : Option Bool := match sub.find? (fun p => p.1 == c && p.2.1 == g) with
  | some p => some p.2.2
  | none => none
def exF (GN : List Str) (KT : List GK) (sub : List (Nat × Nat × Bool)) (tf : List He.Defn) (K : PySem.W.Frag) : Bool := ((GN.zip KT).all fun p => kindB K p.1 p.2) && (subB K GN sub && decide ((tf.map fun p => (He.cT K p).2).Nodup))
end Co
set_option Elab.async false
set_option linter.all false
set_option maxRecDepth 100000
set_option maxHeartbeats 4000000
namespace Co
open PySem PySem.Spec PyProof.Rows L2 LamX L2H
section
variable {KT : List GK} {GN : List Str} {sub : List (Nat × Nat × Bool)} {K : PySem.W.Frag} {h base : Heap} {mg : Str → Option Value}
def kOf (KT : List GK) (g : Nat) : GK := KT.getD g .no
theorem kind_at (hl : GN.length = KT.length) (hx : ((GN.zip KT).all fun p => kindB K p.1 p.2) = true) (g : Nat) : kindB K (nm GN g) (kOf KT g) = true := by
  unfold kOf nm
  by_cases hg : g < KT.length
  · have hg2 : g < GN.length := by omega
    rw [List.getD_eq_getElem?_getD, List.getD_eq_getElem?_getD, List.getElem?_eq_getElem hg, List.getElem?_eq_getElem hg2]
    refine List.all_eq_true.mp hx (GN[g], KT[g]) ?_
    have : (GN.zip KT)[g]? = some (GN[g], KT[g]) := by rw [List.getElem?_zip_eq_some]; exact ⟨List.getElem?_eq_getElem hg2, List.getElem?_eq_getElem hg⟩
    exact List.mem_of_getElem? this
  · rw [show KT.getD g GK.no = .no from by rw [List.getD_eq_getElem?_getD, List.getElem?_eq_none (by omega)]; rfl]
    rfl
theorem kindS_at (hl : GN.length = KT.length) (hx : ((GN.zip KT).all fun p => kindS p.1 p.2) = true) (g : Nat) : kindS (nm GN g) (kOf KT g) = true := by
  unfold kOf nm
  by_cases hg : g < KT.length
  · have hg2 : g < GN.length := by omega
    rw [List.getD_eq_getElem?_getD, List.getD_eq_getElem?_getD, List.getElem?_eq_getElem hg, List.getElem?_eq_getElem hg2]
    refine List.all_eq_true.mp hx (GN[g], KT[g]) ?_
    have : (GN.zip KT)[g]? = some (GN[g], KT[g]) := by rw [List.getElem?_zip_eq_some]; exact ⟨List.getElem?_eq_getElem hg2, List.getElem?_eq_getElem hg⟩
    exact List.mem_of_getElem? this
  · rw [show KT.getD g GK.no = .no from by rw [List.getD_eq_getElem?_getD, List.getElem?_eq_none (by omega)]; rfl]
    rfl
theorem gfact_of {Γ : Mo} (hK : Γ.K = K) (ha : ∀ g, Γ.at_ g = He.ga K (nm GN g)) (X : K.In h) (G : h.Ns mainGlobals mg) (g : Nat) (hb : kindB K (nm GN g) (kOf KT g) = true) (hs : kindS (nm GN g) (kOf KT g) = true) : GFact Γ GN (kOf KT) mg g := by
  unfold GFact
  cases q : kOf KT g with
  | fn =>
    rw [q] at hb
    obtain ⟨h1, h2⟩ := and2 hb
    show mg (nm GN g) = some (.ref (Γ.at_ g)) ∧ PySem.W.keepIn Γ.K (.ref (Γ.at_ g)) = true
    rw [ha, hK]
    exact ⟨PySem.W.mg_of X G (He.eqO_ok h1), h2⟩
  | cls =>
    rw [q] at hb
    show mg (nm GN g) = some (.ref (Γ.at_ g))
    rw [ha]
    exact PySem.W.mg_of X G (He.eqO_ok (and2 hb).1)
  | val d =>
    rw [q] at hb
    have hb : (match PySem.W.nsIn K mainGlobals (nm GN g) with | some (some u) => valB K d u | _ => false) = true := hb
    cases e : PySem.W.nsIn K mainGlobals (nm GN g) with
    | none => rw [e] at hb; cases hb
    | some o =>
      cases o with
      | none => rw [e] at hb; cases hb
      | some u =>
        rw [e] at hb
        obtain ⟨v, r, rp⟩ := valB_ok d u hb
        exact ⟨u, v, PySem.W.mg_of X G e, r, fun G H s _ => rp Γ G H hK⟩
  | blt f =>
    rw [q] at hb hs
    cases f with
    | gcd => exact PySem.W.mg_of X G (He.eqO_ok hb)
    | _ => exact ⟨PySem.W.mg_none_of X G (He.eqO_ok hb), of_decide_eq_true hs⟩
  | isi => rw [q] at hb hs; exact ⟨PySem.W.mg_none_of X G (He.eqO_ok hb), of_decide_eq_true hs⟩
  | ty t => rw [q] at hb hs; exact ⟨PySem.W.mg_none_of X G (He.eqO_ok hb), of_decide_eq_true hs⟩
  | rng => rw [q] at hb hs; have e : nm GN g = "range" := of_decide_eq_true hs; exact ⟨e, by rw [← e]; exact PySem.W.mg_none_of X G (He.eqO_ok hb)⟩
  | enu => rw [q] at hb hs; have e : nm GN g = "enumerate" := of_decide_eq_true hs; exact ⟨e, by rw [← e]; exact PySem.W.mg_none_of X G (He.eqO_ok hb)⟩
  | zip => rw [q] at hb hs; have e : nm GN g = "zip" := of_decide_eq_true hs; exact ⟨e, by rw [← e]; exact PySem.W.mg_none_of X G (He.eqO_ok hb)⟩
  | no => trivial
theorem isi_plain {Γ : Mo} {KK : Nat → GK} {sb : Nat → Nat → Option Bool} {C : Cl} {Y : Cx} (hK : Γ.K = Y.K) (hC : C.cls = clsOf KK sb) (t : Nat) {v : V} {G : Gh} {d : D} {b : Bool} {H : Hp} {Q : VK} (r : Rp Γ G H v d) (e : C.cls t d = some b) (q : Q (.bl b) H) (hx : ∀ c n, d ≠ .exc c n) : rIsi Y.K [v, clsV Γ KK t] H Q := by
  rw [hC] at e
  unfold clsOf at e
  cases z : KK t with
  | ty T =>
    rw [z] at e
    obtain ⟨h1, h2⟩ := isTy_kit e
    have ec : clsV Γ KK t = .ty T := by unfold clsV; rw [z]
    rw [ec]
    exact ⟨v, .ty T, .type d.tyN, .type T, b, rfl, .ty T, by rw [← hK]; exact tyx_of r h1, kit_ty h2, q⟩
  | cls =>
    rw [z] at e
    cases d with
    | exc c n => exact absurd rfl (hx c n)
    | _ => cases e
  | _ => rw [z] at e; cases e
theorem inst_of {s : Heap} {a D : Addr} {oe : Obj} (hget : s.get? a = some oe) (hz : Zc (.ref D) none oe) (hf : ∃ vs, oe.data = .fields vs) : PySem.W.InstAt s a oe D none := by
  obtain ⟨vs, hv⟩ := hf
  obtain ⟨oc, od, oda, osl⟩ := oe
  obtain ⟨h1, h2⟩ := hz
  dsimp only at h1 h2 hv
  subst h1 h2 hv
  exact ⟨hget, rfl, rfl, trivial⟩
theorem nodup_inj {α β : Type} {f : α → β} : ∀ {l : List α}, (l.map f).Nodup → ∀ {a b : α}, a ∈ l → b ∈ l → f a = f b → a = b
  | [], _, _, _, ha, _, _ => by cases ha
  | x :: l, h, a, b, ha, hb, e => by
    rw [List.map_cons, List.nodup_cons] at h
    rcases List.mem_cons.mp ha with ha | ha <;> rcases List.mem_cons.mp hb with hb | hb
    · rw [ha, hb]
    · exact absurd (List.mem_map.mpr ⟨b, hb, by rw [← e, ha]⟩) h.1
    · exact absurd (List.mem_map.mpr ⟨a, ha, by rw [e, hb]⟩) h.1
    · exact nodup_inj h.2 ha hb e
def pOf (DT : List (Option Dd)) (g : Nat) : Option Dd := DT.getD g none
def defD (GN : List Str) (g : Nat) (d : Dd) : He.DefD := ⟨(nm GN g, none), d.name, d.name, d.params, backSs d.names GN d.body, d.scope, [], []⟩
def fnList (GN : List Str) (DT : List (Option Dd)) : List He.DefD := (List.range DT.length).filterMap fun g => (pOf DT g).map (defD GN g)
def tfList (GN : List Str) (tg : List Nat) : List He.Defn := tg.map fun g => (nm GN g, none)
def tOfL (GN : List Str) (DT : List (Option Dd)) (K : PySem.W.Frag) (tg : List Nat) : List (Addr × Str) := tg.filterMap fun g => (pOf DT g).map fun d => ((He.cT K (nm GN g, none)).2, lamQ d)
def moOf (GN : List Str) (DT : List (Option Dd)) (K : PySem.W.Frag) (tg : List Nat) (scr : Option (Addr × List Int)) : Mo := { K := K, at_ := fun g => He.ga K (nm GN g), T := tOfL GN DT K tg, scr := scr }
structure Ck (GN : List Str) (KT : List GK) (DT : List (Option Dd)) (tg : List Nat) : Prop where
  len : GN.length = KT.length
  lenD : DT.length = KT.length
  ok : ((List.range DT.length).all fun g => match pOf DT g with | some d => d.ok GN (kOf KT) && (!d.lams || tg.contains g) | none => true) = true
  kf : ((List.range DT.length).all fun g => (kOf KT g).isFn == (pOf DT g).isSome) = true
  ks : ((GN.zip KT).all fun p => kindS p.1 p.2) = true
  bn : ∀ g d, pOf DT g = some d → d.bn GN
theorem pOf_lt {DT : List (Option Dd)} {g : Nat} {d : Dd} (e : pOf DT g = some d) : g < DT.length := by
  unfold pOf at e
  rw [List.getD_eq_getElem?_getD] at e
  by_cases hg : g < DT.length
  · exact hg
  · rw [List.getElem?_eq_none (by omega)] at e; cases e
theorem pf_of {DT : List (Option Dd)} {tg : List Nat} {prog : Program} {wd : World} (ck : Ck GN KT DT tg) (X : K.In h) (G : h.Ns mainGlobals mg) (c : He.SaysX [] (fnList GN DT) [] (tfList GN tg) (exF GN KT sub (tfList GN tg)) wd h K)
    (tb : ∀ p ∈ (tfList GN tg).map (He.cT K), TabB base mg p.1 p.2) (scr : Option (Addr × List Int)) : PF prog wd K mg base (moOf GN DT K tg scr) GN (kOf KT) (pOf DT) (clsOf (kOf KT) (subOf sub)) := by
  obtain ⟨x1, x2, x3⟩ := and3 c.more
  have kb := kind_at ck.len x1
  have ks := kindS_at ck.len ck.ks
  have okd : ∀ g d, pOf DT g = some d → d.ok GN (kOf KT) = true ∧ (!d.lams || tg.contains g) = true := fun g d e => by
    have := List.all_eq_true.mp ck.ok g (List.mem_range.mpr (pOf_lt e))
    rw [e] at this
    exact and2 this
  have sd : He.SaysD [] (fnList GN DT) K := by
    have z : He.obsT [] (fnList GN DT) [] K = He.valT (fnList GN DT) [] wd := c.t
    exact congrArg Prod.fst z
  have fnd : ∀ g d, pOf DT g = some d → ∃ fd, FunD K d.name d.name d.params (backSs d.names GN d.body) d.scope [] [] (He.ga K (nm GN g)) fd := fun g d e =>
    He.SaysD.defs sd (d := defD GN g d) (List.mem_filterMap.mpr ⟨g, List.mem_range.mpr (pOf_lt e), by rw [e]; rfl⟩)
  have clsF : ∀ g, kOf KT g = .cls → (He.Fa.exc (nm GN g)).ok K = true ∧ excB K (He.ga K (nm GN g)) = true ∧ mg (nm GN g) = some (.ref (He.ga K (nm GN g))) := fun g e => by
    have z := kb g
    rw [e] at z
    obtain ⟨z1, z2, z3⟩ := and3 z
    exact ⟨z2, z3, PySem.W.mg_of X G (He.eqO_ok z1)⟩
  have subF : ∀ cc g b, subOf sub cc g = some b → PySem.W.exmOne K (.ref (He.ga K (nm GN cc))) (.ref (He.ga K (nm GN g))) = some b ∧ PySem.W.kitOne K (.ref (He.ga K (nm GN cc))) (.ref (He.ga K (nm GN g))) = some b ∧ excB K (He.ga K (nm GN cc)) = true := fun cc g b e => by
    unfold subOf at e
    cases q : sub.find? (fun p => p.1 == cc && p.2.1 == g) with
    | none => rw [q] at e; cases e
    | some p =>
      rw [q] at e
      cases e
      have hp := List.mem_of_find?_eq_some q
      have hq := List.find?_some q
      obtain ⟨h1, h2⟩ := and2 hq
      have h1 : p.1 = cc := by simpa using h1
      have h2 : p.2.1 = g := by simpa using h2
      obtain ⟨z12, z3⟩ := and2 (List.all_eq_true.mp x2 p hp)
      obtain ⟨z1, z2⟩ := and2 z12
      subst h1 h2
      exact ⟨of_decide_eq_true z1, of_decide_eq_true z2, z3⟩
  exact {
    hK := rfl
    ex := rfl
    fn := fnd
    ok := fun g d e => (okd g d e).1
    bn := ck.bn
    kfn := fun g e => by
      have hg : g < DT.length := by
        by_cases hg : g < DT.length
        · exact hg
        · have : kOf KT g = .no := by unfold kOf; rw [List.getD_eq_getElem?_getD, List.getElem?_eq_none (by rw [← ck.lenD]; omega)]; rfl
          rw [this] at e; cases e
      have z := List.all_eq_true.mp ck.kf g (List.mem_range.mpr hg)
      rw [e] at z
      cases q : pOf DT g with
      | some d => exact ⟨d, rfl⟩
      | none => rw [q] at z; cases z
    fnk := fun g d e => by
      have z := List.all_eq_true.mp ck.kf g (List.mem_range.mpr (pOf_lt e))
      rw [e] at z
      cases q : kOf KT g <;> rw [q] at z <;> first | rfl | cases z
    gf := fun thk held g => gfact_of rfl (fun _ => rfl) X G g (kb g) (ks g)
    isi := fun Y thk held C hY hC t pins s σ H xs us Q I r hh =>
      by
        obtain ⟨v, G0, s0, d, b, rfl, k, r0, e, q⟩ := hh
        exact call_isi pins s σ H _ us Q I r (isi_plain (Y := Y) (Γ := (moOf GN DT K tg scr).var thk held) hY.symm hC t r0 e q fun c n z => by
          subst z
          cases r0 with
          | exc e => cases e)
    exm := fun cc n g b hk e => by
      unfold clsOf at e
      rw [hk] at e
      exact (subF cc g b e).1
    isiS := fun X0 thk held C hX hC a oe cc n pn hz hd hk Y hY t pins s σ H xs us Q I r hh => by
      have hYK : Y.K = K := hY.K.trans hX
      obtain ⟨v, G0, s0, d, b, e1, k, r0, e, q⟩ := id hh
      by_cases hx : ∃ c' n', d = .exc c' n'
      · obtain ⟨c', n', rfl⟩ := hx
        subst e1
        cases r0 with
        | exc e2 =>
          cases e2
          rw [hC] at e
          unfold clsOf at e
          cases z : kOf KT t with
          | cls =>
            rw [z] at e
            have ec : clsV ((moOf GN DT K tg scr).var thk held |>.hot a cc n) (kOf KT) t = .ref (He.ga K (nm GN t)) := by unfold clsV; rw [z]; rfl
            rw [ec] at r
            cases r with
            | cons rx rr =>
              cases rr with
              | cons rt rr =>
                cases rr
                cases rx
                cases rt
                have hpn : Y.pn = (a, oe) :: pn := hY.pn rfl
                obtain ⟨hget, _⟩ := I.pin (a, oe) (List.mem_append.mpr (.inl (by rw [hpn]; exact List.mem_cons_self)))
                have C1 := excB_ok (subF cc t b e).2.2
                have C2 : ExcC Y.K (He.ga K (nm GN cc)) := by rw [hYK]; exact C1
                exact PySem.W.kia_one (PySem.W.handS_kitx_exc C2.hg C2.hk C2.hs C2.hd C2.ha C2.hn C2.ht C2.hm) I.kIn (inst_of hget hz.zc hd) (by rw [hYK]; exact (subF cc t b e).2.1) (fun z => nomatch z) fun tk => ⟨.bl b, H, I.kept (t' := tk) fun _ _ z => z, rfl, q⟩
          | ty T => rw [z] at e; cases e
          | _ => rw [z] at e; cases e
      · subst e1
        exact call_isi pins s σ H _ us Q I r (isi_plain (Y := Y) (Γ := (moOf GN DT K tg scr).var thk held |>.hot a cc n) hYK.symm hC t r0 e q fun c' n' z => hx ⟨c', n', z⟩)
    rai := fun X0 hX hm g x kk gp sp cp hk hg hdb => by
      obtain ⟨f1, f2, f3⟩ := clsF g hk
      obtain ⟨a1, a2, a3, a4⟩ := He.exc_ok f1
      exact L2N.pmk_own PySem.F.excBase_ValueError (by rw [hX]; exact a1) (by rw [hm]; exact f3) (by rw [hX]; exact a2) (raises_own (by rw [hX]; exact a3) (by rw [hX]; exact a4)) hg hdb
    tab := fun g d e hls oc od fd osl lk => by
      have hm : g ∈ tg := by
        have z := (okd g d e).2
        rw [hls] at z
        simpa using z
      obtain ⟨fd2, hF⟩ := fnd g d e
      obtain ⟨oc2, od2, dV, kV, doc, pm, an, cdv, ct, osl2, e2, lk2, hcd, _⟩ := hF.ex
      have e3 : fd = fd2 := by
        have z := lk.symm.trans lk2
        cases z; rfl
      subst e3
      have hcode : fd.code = cdv := by rw [e2]
      obtain ⟨cc, ecc⟩ := He.codeIn_ref hcd
      have eco : He.codeOf K (nm GN g, none) = cc := He.codeOf_eq (p := (nm GN g, none)) lk (hcode.trans ecc)
      have hcT : (nm GN g, none) ∈ tfList GN tg := List.mem_map.mpr ⟨g, hm, rfl⟩
      have t1 := tb (He.cT K (nm GN g, none)) (List.mem_map.mpr ⟨_, hcT, rfl⟩)
      refine ⟨cc, (He.cT K (nm GN g, none)).2, hcode.trans ecc, ?_, List.mem_filterMap.mpr ⟨g, hm, by rw [e]; rfl⟩, fun q hq hq1 => ?_⟩
      · have : (He.cT K (nm GN g, none)).1 = cc := eco
        rw [this] at t1
        exact t1
      · obtain ⟨g', hg', e'⟩ := List.mem_filterMap.mp hq
        cases q' : pOf DT g' with
        | none => rw [q'] at e'; cases e'
        | some d' =>
          rw [q'] at e'
          cases e'
          have nd : (((tfList GN tg).map fun p => (He.cT K p).2)).Nodup := of_decide_eq_true x3
          have en := nodup_inj nd (List.mem_map.mpr ⟨g', hg', rfl⟩) hcT hq1
          obtain ⟨fd3, hF3⟩ := fnd g' d' q'
          have en2 : nm GN g' = nm GN g := congrArg (fun z => z.1) en
          rw [en2] at hF3
          obtain ⟨_, _, _, _, _, _, _, _, _, _, f1, f2, _⟩ := hF3.ex
          have z := f2.symm.trans lk
          have z2 : fd3 = fd := by injection z with z; injection z with _ _ z; injection z
          rw [z2, e2] at f1
          have nmE : d.name = d'.name := congrArg FuncData.name f1
          show lamQ d' = lamQ d
          unfold lamQ
          show d'.name ++ _ ++ _ = d.name ++ _ ++ _
          rw [nmE] }
theorem law_of {l : PySem.W.OpenLaw} {DT : List (Option Dd)} {tg : List Nat} {w : World} {fa : Addr} {gL n wf m : Nat} {dL : Dd} {x : Str} (ck : Ck GN KT DT tg) (X : K.In h) (G : h.Ns mainGlobals mg) (c : He.SaysX [] (fnList GN DT) [] (tfList GN tg) (exF GN KT sub (tfList GN tg)) w h K)
    (hL : pOf DT gL = some dL) (hx : dL.ps = [x]) (hmg : mg (nm GN gL) = some (.ref fa))
    (law : ∀ ns : List Int, ns.length ≤ n → (∀ z ∈ ns, Builtin.Int.intBits z ≤ 1048576) → ∃ s', run (Pd (pOf DT)) (clsOf (kOf KT) (subOf sub)) wf true m gL [.scr ns] none = some (.ok (.bl true), s')) :
    LawAtS l w K (L2N.CX l.prog w) (3 * m) n x mg fa h := by
  obtain ⟨x1, x2, x3⟩ := and3 c.more
  have hfa : fa = He.ga K (nm GN gL) := by
    have sd : He.SaysD [] (fnList GN DT) K := by
      have z : He.obsT [] (fnList GN DT) [] K = He.valT (fnList GN DT) [] w := c.t
      exact congrArg Prod.fst z
    have z := kind_at (KT := KT) (K := K) ck.len x1 gL
    have hk : kOf KT gL = .fn := by
      have z := List.all_eq_true.mp ck.kf gL (List.mem_range.mpr (pOf_lt hL))
      rw [hL] at z
      cases q : kOf KT gL <;> rw [q] at z <;> first | rfl | cases z
    rw [hk] at z
    have z := PySem.W.mg_of X G (He.eqO_ok (and2 z).1)
    rw [hmg] at z
    injection z with z
    injection z
  have pfs := fun (base : Heap) (tb : ∀ p ∈ (tfList GN tg).map (He.cT K), TabB base mg p.1 p.2) (scr : Option (Addr × List Int)) => pf_of (prog := l.prog) (base := base) ck X G c tb scr
  obtain ⟨fd, hF⟩ : ∃ fd, FunD K dL.name dL.name dL.params (backSs dL.names GN dL.body) dL.scope [] [] (He.ga K (nm GN gL)) fd := by
    have sd : He.SaysD [] (fnList GN DT) K := by
      have z : He.obsT [] (fnList GN DT) [] K = He.valT (fnList GN DT) [] w := c.t
      exact congrArg Prod.fst z
    exact He.SaysD.defs sd (d := defD GN gL dL) (List.mem_filterMap.mpr ⟨gL, List.mem_range.mpr (pOf_lt hL), by rw [hL]; rfl⟩)
  have bA := hF.bindsA (ck.bn gL dL hL)
  let sp : Sp := fun vs H Q E => ∃ (a : Addr) (ns : List Int), spOf (moOf GN DT K tg (some (a, ns))) (run (Pd (pOf DT)) (clsOf (kOf KT) (subOf sub)) wf true m gL) 1 vs H Q E
  refine ⟨fd, (tfList GN tg).map (He.cT K), sp, fun p hp => ?_, fun p hp => ?_, fun p hp => ?_, fun s u => ?_, fun H a ns hn hb hT hS => ?_, fun base hB hG tb => ?_⟩
  · obtain ⟨q, hq, rfl⟩ := List.mem_map.mp hp
    exact c.empty q hq
  · obtain ⟨q, hq, rfl⟩ := List.mem_map.mp hp
    exact c.out q hq
  · obtain ⟨q, hq, rfl⟩ := List.mem_map.mp hp
    exact PySem.W.codeHd_of_K X (c.hd q hq)
  · have z := bA s [u] (by rw [hx]; rfl)
    rw [hx] at z
    exact z
  · obtain ⟨s', hlaw⟩ := law ns hn hb
    let Z : Addr → Prop := fun b => b = a ∧ H a = some (.lst (ns.map V.int))
    refine ⟨a, ns, { Z := Z, cup := none }, [.scr ns], none, .cons (.scr rfl) .nil, ⟨rfl, fun p hp => ?_, (fun _ _ _ e => nomatch e), fun a' ns' e => ?_, fun b hb => ?_, (fun p hp => nomatch hp)⟩, rfl, ?_⟩
    · obtain ⟨g, hg, e⟩ := List.mem_filterMap.mp hp
      cases q : pOf DT g with
      | none => rw [q] at e; cases e
      | some d =>
        rw [q] at e
        cases e
        exact TabS.nil (hT (He.cT K (nm GN g, none)) (List.mem_map.mpr ⟨(nm GN g, none), List.mem_map.mpr ⟨g, hg, rfl⟩, rfl⟩))
    · cases e
      rcases hS with (hS | ⟨o, hS⟩) | hS
      · exact .inr (.inl ⟨⟨rfl, hS⟩, hS⟩)
      · exact .inl ⟨o, hS⟩
      · exact .inr (.inr hS)
    · obtain ⟨rfl, hb2⟩ := hb
      exact ⟨_, hb2⟩
    · show Post _ _ _ _ _ _ (run (Pd (pOf DT)) (clsOf (kOf KT) (subOf sub)) wf true m gL [.scr ns] none) _
      rw [hlaw]
      exact fun v G' H' _ _ r => by cases r; rfl
  · have e1 : dL.ps.length = 1 := by rw [hx]; rfl
    refine ⟨fun vs H Q E hh => ?_, fun A outer s H args us vs Q E hr e0 hbt r hh => ?_⟩
    · obtain ⟨a, ns, _, _, _, _, _, hl, _⟩ := hh
      exact hl
    · obtain ⟨a, ns, hh⟩ := hh
      obtain ⟨fd2, hF2, hOk, _⟩ := all_lv (pfs base tb (some (a, ns))) wf m true none [] (fun _ => rfl) gL dL hL
      have e2 : fd2 = fd := by
        obtain ⟨_, _, _, _, _, _, _, _, _, _, _, f2, _⟩ := hF2.ex
        obtain ⟨_, _, _, _, _, _, _, _, _, _, _, f3, _⟩ := hF.ex
        have z := f2.symm.trans f3
        injection z with z
        injection z with _ _ z
        injection z
      rw [e2, e1, hx] at hOk
      rw [hfa]
      exact hOk.run A outer s H args us vs Q E hr e0 hbt r hh
end
def AllBn (GN : List Str) : List (Option Dd) → Prop
  | [] => True
  | none :: l => AllBn GN l
  | some d :: l => d.bn GN ∧ AllBn GN l
theorem bn_of {GN : List Str} : ∀ {DT : List (Option Dd)}, AllBn GN DT → ∀ g d, pOf DT g = some d → d.bn GN
  | [], _, g, d, e => by
    unfold pOf at e
    simp at e
  | none :: l, h, 0, d, e => by cases e
  | none :: l, h, g + 1, d, e => bn_of (DT := l) h g d (by simpa [pOf] using e)
  | some d0 :: l, h, 0, d, e => by
    cases e
    exact h.1
  | some d0 :: l, h, g + 1, d, e => bn_of (DT := l) h.2 g d (by simpa [pOf] using e)
end Co
set_option Elab.async false
set_option linter.all false
set_option maxRecDepth 100000
set_option maxHeartbeats 4000000
namespace Co
open PySem PySem.Spec PyProof.Rows L2
section
variable {α β γ : Type} {C : Cl} {env : En} {p p2 p3 p4 : Pos} {k : Nat} {ea eb ec : E}
theorem nr {a b : α} (h : a = b) : a = b := h
@[simp] theorem b_pure (a : α) (f : α → M β) : M.bind (M.pure a) f = f a := nr rfl
@[simp] theorem b_no (f : α → M β) : M.bind M.no f = M.no := nr rfl
@[simp] theorem b_raise (g : Nat) (n : Int) (f : α → M β) : M.bind (M.raise g n) f = M.raise g n := nr rfl
@[simp] theorem b_assoc (m : M α) (f : α → M β) (g : β → M γ) : M.bind (M.bind m f) g = M.bind m (fun a => M.bind (f a) g) := by
  funext s
  unfold M.bind
  cases m s with
  | none => rfl
  | some q =>
    obtain ⟨r, s'⟩ := q
    cases r <;> rfl
@[simp] theorem b_id (m : M α) : M.bind m M.pure = m := by
  funext s
  unfold M.bind M.pure
  cases m s with
  | none => rfl
  | some q =>
    obtain ⟨r, s'⟩ := q
    cases r <;> rfl
@[simp] theorem b_id' (m : M α) : M.bind m (fun a => M.pure a) = m := b_id m
@[simp] theorem b_ite (c : Prop) [Decidable c] (a b : M α) (f : α → M β) : M.bind (if c then a else b) f = if c then M.bind a f else M.bind b f := by by_cases h : c <;> simp [h]
@[simp] theorem of_some (a : α) : M.of (some a) = M.pure a := nr rfl
@[simp] theorem of_none : M.of (none : Option α) = M.no := nr rfl
@[simp] theorem of_ite (c : Prop) [Decidable c] (a b : Option α) : M.of (if c then a else b) = if c then M.of a else M.of b := by by_cases h : c <;> simp [h]
@[simp] theorem c_pure (a : α) : M.calm (M.pure a) = M.pure a := nr rfl
@[simp] theorem c_no : M.calm (M.no : M α) = M.no := nr rfl
@[simp] theorem c_raise (g : Nat) (n : Int) : M.calm (M.raise g n : M α) = M.no := nr rfl
@[simp] theorem c_ite (c : Prop) [Decidable c] (a b : M α) : M.calm (if c then a else b) = if c then M.calm a else M.calm b := by by_cases h : c <;> simp [h]
def gd (b : Bool) (m : M α) : M α := match b with
  | true => m
  | false => M.no
def gdO (b : Bool) (a : α) : Option α := match b with
  | true => some a
  | false => none
@[simp] theorem gd_t (m : M α) : gd true m = m := nr rfl
@[simp] theorem gd_f (m : M α) : gd false m = M.no := nr rfl
@[simp] theorem gdO_t (a : α) : gdO true a = some a := nr rfl
@[simp] theorem gdO_f (a : α) : gdO false a = none := nr rfl
@[simp] theorem of_gd (b : Bool) (a : α) : M.of (gdO b a) = gd b (M.pure a) := by cases b <;> rfl
@[simp] theorem b_gd (b : Bool) (m : M α) (f : α → M β) : M.bind (gd b m) f = gd b (M.bind m f) := by cases b <;> rfl
@[simp] theorem c_gd (b : Bool) (m : M α) : M.calm (gd b m) = gd b (M.calm m) := by cases b <;> rfl
theorem gd_if (b : Bool) (m : M α) : (if b = true then m else M.no) = gd b m := by cases b <;> rfl
theorem gdO_if (b : Bool) (a : α) : (if b = true then some a else none) = gdO b a := by cases b <;> rfl
theorem pure_s (a : α) (s : St2) : M.pure a s = some (.ok a, s) := rfl
theorem raise_s (g : Nat) (n : Int) (s : St2) : (M.raise g n : M α) s = some (.ex g n, s) := rfl
def cnd (x : D) (a b : M α) : M α := match x with
  | .bl true => a
  | .bl false => b
  | _ => M.no
@[simp] theorem cnd_bl (b : Bool) (x y : M α) : cnd (.bl b) x y = if b then x else y := by cases b <;> rfl
theorem bind_s {m : M α} {f : α → M β} {s s' : St2} {a : α} (h : m s = some (.ok a, s')) : M.bind m f s = f a s' := by unfold M.bind; rw [h]
@[simp] theorem ev_v (i : Nat) : ev C (.v i p) env = M.of (env.get i) := nr rfl
@[simp] theorem ev_int (n : Int) : ev C (.int n k p) env = M.pure (.int n) := nr rfl
@[simp] theorem ev_bl (n : Bool) : ev C (.bl n k p) env = M.pure (.bl n) := nr rfl
@[simp] theorem ev_non : ev C (.non k p) env = M.pure .non := nr rfl
@[simp] theorem ev_str (x : Str) : ev C (.str x k p) env = M.pure (.str x) := nr rfl
@[simp] theorem ev_gl (g : Nat) (d : D) : ev C (.gl g d p) env = M.pure d := nr rfl
@[simp] theorem ev_bin (o : Operator) : ev C (.bin o ea eb p) env = M.bind (ev C ea env) fun x => M.bind (ev C eb env) fun y => M.of (binD o x y) := nr rfl
def negD (x : D) : M D := match x with
  | .int i => M.pure (.int (-i))
  | _ => M.no
@[simp] theorem negD_int (i : Int) : negD (.int i) = M.pure (.int (-i)) := nr rfl
@[simp] theorem ev_neg : ev C (.neg ea p) env = M.bind (ev C ea env) negD := nr rfl
def notD (x : D) : M D := match x with
  | .bl b => M.pure (.bl (!b))
  | _ => M.no
@[simp] theorem notD_bl (b : Bool) : notD (.bl b) = M.pure (.bl (!b)) := nr rfl
@[simp] theorem ev_not : ev C (.not ea p) env = M.bind (ev C ea env) notD := nr rfl
@[simp] theorem ev_cmp (o : CmpOp) : ev C (.cmp o ea eb p) env = M.bind (ev C ea env) fun x => M.bind (ev C eb env) fun y => M.of ((cmpD o x y).map .bl) := nr rfl
@[simp] theorem ev_cmp2 (o o2 : CmpOp) : ev C (.cmp2 o o2 ea eb ec p) env = M.bind (ev C ea env) fun x => M.bind (ev C eb env) fun y => M.bind (M.of (cmpD o x y)) fun r => if r then M.bind (ev C ec env) fun z => M.of ((cmpD o2 y z).map .bl) else M.pure (.bl false) := nr rfl
@[simp] theorem ev_bop (o : BoolOp) (es : Es) : ev C (.bop o es p) env = evB C o es env := nr rfl
@[simp] theorem ev_ife : ev C (.ife ec ea eb p) env = M.bind (ev C ec env) fun x => cnd x (ev C ea env) (ev C eb env) := nr rfl
@[simp] theorem ev_tup (es : Es) : ev C (.tup es k p) env = M.bind (evs C es env) fun l => gd (sizeOk l.length) (M.pure (.tup l)) := by
  show M.bind (evs C es env) (fun l => if sizeOk l.length = true then (M.pure (D.tup l) : M D) else M.no) = _
  simp only [gd_if]
@[simp] theorem ev_lst (es : Es) : ev C (.lst es p) env = M.bind (evs C es env) fun l => gd (sizeOk l.length) (M.pure (.lst l)) := by
  show M.bind (evs C es env) (fun l => if sizeOk l.length = true then (M.pure (D.lst l) : M D) else M.no) = _
  simp only [gd_if]
@[simp] theorem ev_ix : ev C (.ix ea eb p) env = M.bind (ev C ea env) fun x => M.bind (ev C eb env) fun y => ixD x y := nr rfl
@[simp] theorem ev_sl (lo hi : Oe) : ev C (.sl ea lo hi p2 p) env = M.bind (ev C ea env) fun x => M.bind (evO C lo env) fun l => M.bind (evO C hi env) fun h => M.of (slD x l h) := nr rfl
def revD (x : D) : M D := match x with
  | .lst l => M.pure (.lst l.reverse)
  | .tup l => M.pure (.tup l.reverse)
  | _ => M.no
@[simp] theorem revD_lst (l : List D) : revD (.lst l) = M.pure (.lst l.reverse) := nr rfl
@[simp] theorem revD_tup (l : List D) : revD (.tup l) = M.pure (.tup l.reverse) := nr rfl
@[simp] theorem ev_rev : ev C (.rev ea k p4 p3 p2 p) env = M.bind (ev C ea env) revD := nr rfl
@[simp] theorem ev_call (g : Nat) (es : Es) : ev C (.call g es p2 p) env = M.bind (evs C es env) fun l => C.c g l := nr rfl
@[simp] theorem ev_blt (f : Bi) (g : Nat) (es : Es) : ev C (.blt f g es p2 p) env = M.bind (evs C es env) fun l => bltM f l := nr rfl
@[simp] theorem ev_isi (g t : Nat) : ev C (.isi g ea t p3 p2 p) env = M.bind (ev C ea env) fun x => M.of ((C.cls t x).map .bl) := nr rfl
@[simp] theorem ev_lc (t : T) (it : I) (cs : Es) (sc : Scope) (own vis gls : List Nat) : ev C (.lc ea t it cs sc own vis gls p) env = M.bind (evI C it env) fun l => compL (fun d => tgt t d (env.wipe own)) (fun e => evB C .And cs e) (fun e => ev C ea e) l [] := nr rfl
@[simp] theorem evs_nil : evs C .nil env = M.pure [] := nr rfl
@[simp] theorem evs_cons (es : Es) : evs C (.cons ea es) env = M.bind (ev C ea env) fun x => M.bind (evs C es env) fun l => M.pure (x :: l) := nr rfl
def boolD (x : D) (f : Bool → M D) : M D := match x with
  | .bl b => f b
  | _ => M.no
@[simp] theorem boolD_bl (b : Bool) (f : Bool → M D) : boolD (.bl b) f = f b := nr rfl
@[simp] theorem evB_nil (o : BoolOp) : evB C o .nil env = M.pure (.bl true) := nr rfl
@[simp] theorem evB_one (o : BoolOp) : evB C o (.cons ea .nil) env = ev C ea env := nr rfl
@[simp] theorem evB_and (es : Es) : evB C .And (.cons ea (.cons eb es)) env = M.bind (ev C ea env) fun x => boolD x fun b => if b = true then evB C .And (.cons eb es) env else M.pure (.bl false) := by
  show M.bind _ _ = M.bind _ _
  congr 1
  funext x
  cases x <;> try rfl
  rename_i b
  cases b <;> rfl
@[simp] theorem evB_or (es : Es) : evB C .Or (.cons ea (.cons eb es)) env = M.bind (ev C ea env) fun x => boolD x fun b => if b = true then M.pure (.bl true) else evB C .Or (.cons eb es) env := by
  show M.bind _ _ = M.bind _ _
  congr 1
  funext x
  cases x <;> try rfl
  rename_i b
  cases b <;> rfl
def partD (x : D) : M (Option Int) := match x with
  | .int i => M.pure (some i)
  | _ => M.no
@[simp] theorem partD_int (i : Int) : partD (.int i) = M.pure (some i) := nr rfl
@[simp] theorem evO_no : evO C .no env = M.pure none := nr rfl
@[simp] theorem evO_so : evO C (.so ea) env = M.bind (ev C ea env) partD := nr rfl
def seqD (x : D) : M (List D) := match x with
  | .lst l => M.pure l
  | .tup l => M.pure l
  | _ => M.no
@[simp] theorem seqD_lst (l : List D) : seqD (.lst l) = M.pure l := nr rfl
@[simp] theorem seqD_tup (l : List D) : seqD (.tup l) = M.pure l := nr rfl
@[simp] theorem evI_seq : evI C (.seq ea) env = M.bind (ev C ea env) seqD := nr rfl
def rgD (x : D) : M (List D) := match x with
  | .int j => if int64 j then M.pure (rangeD 0 j.toNat) else M.no
  | _ => M.no
@[simp] theorem rgD_int (j : Int) : rgD (.int j) = gd (int64 j) (M.pure (rangeD 0 j.toNat)) := gd_if _ _
@[simp] theorem evI_rg1 (g : Nat) : evI C (.rg1 g ea p2 p) env = M.bind (ev C ea env) rgD := nr rfl
def zpD (x y : D) : M (List D) := match x, y with
  | .lst l, .lst r => M.pure (zipD l r)
  | .tup l, .tup r => M.pure (zipD l r)
  | .lst l, .tup r => M.pure (zipD l r)
  | .tup l, .lst r => M.pure (zipD l r)
  | _, _ => M.no
@[simp] theorem zpD_lst (l r : List D) : zpD (.lst l) (.lst r) = M.pure (zipD l r) := nr rfl
@[simp] theorem zpD_tup (l r : List D) : zpD (.tup l) (.tup r) = M.pure (zipD l r) := nr rfl
@[simp] theorem zpD_lt (l r : List D) : zpD (.lst l) (.tup r) = M.pure (zipD l r) := nr rfl
@[simp] theorem zpD_tl (l r : List D) : zpD (.tup l) (.lst r) = M.pure (zipD l r) := nr rfl
def enD (x : D) : M (List D) := match x with
  | .lst l => M.pure (enumD 0 l)
  | .tup l => M.pure (enumD 0 l)
  | _ => M.no
@[simp] theorem enD_lst (l : List D) : enD (.lst l) = M.pure (enumD 0 l) := nr rfl
@[simp] theorem enD_tup (l : List D) : enD (.tup l) = M.pure (enumD 0 l) := nr rfl
@[simp] theorem evI_en (g : Nat) : evI C (.en g ea p2 p) env = M.bind (ev C ea env) enD := nr rfl
def rg2D (x y : D) : M (List D) := match x, y with
  | .int i, .int j => if int64 i && int64 j then M.pure (rangeD i (j - i).toNat) else M.no
  | _, _ => M.no
@[simp] theorem rg2D_ii (i j : Int) : rg2D (.int i) (.int j) = gd (int64 i && int64 j) (M.pure (rangeD i (j - i).toNat)) := gd_if _ _
@[simp] theorem evI_rg2 (g : Nat) : evI C (.rg2 g ea eb p2 p) env = M.bind (ev C ea env) fun x => M.bind (ev C eb env) fun y => rg2D x y := nr rfl
@[simp] theorem evI_zp (g : Nat) : evI C (.zp g ea eb p2 p) env = M.bind (ev C ea env) fun x => M.bind (ev C eb env) fun y => zpD x y := nr rfl
@[simp] theorem add_ii (i j : Int) : binD .Add (.int i) (.int j) = some (.int (i + j)) := nr rfl
@[simp] theorem add_ll (x y : List D) : binD .Add (.lst x) (.lst y) = gdO (sizeOk (x.length + y.length)) (.lst (x ++ y)) := gdO_if _ _
@[simp] theorem add_tt (x y : List D) : binD .Add (.tup x) (.tup y) = gdO (sizeOk (x.length + y.length)) (.tup (x ++ y)) := gdO_if _ _
@[simp] theorem sub_ii (i j : Int) : binD .Sub (.int i) (.int j) = some (.int (i - j)) := nr rfl
@[simp] theorem mul_ii (i j : Int) : binD .Mult (.int i) (.int j) = gdO (mulOk i j) (.int (i * j)) := gdO_if _ _
@[simp] theorem fdiv_ii (i j : Int) : binD .FloorDiv (.int i) (.int j) = gdO (divOk j) (.int (i.fdiv j)) := gdO_if _ _
@[simp] theorem mod_ii (i j : Int) : binD .Mod (.int i) (.int j) = if j ≠ 0 then some (.int (i.fmod j)) else none := nr rfl
@[simp] theorem pow_ii (i j : Int) : binD .Pow (.int i) (.int j) = if 0 ≤ j ∧ j ≤ 1000000 ∧ i.natAbs < 2 ^ 64 then some (.int (i ^ j.toNat)) else none := nr rfl
@[simp] theorem lt_ii (i j : Int) : cmpD .Lt (.int i) (.int j) = some (decide (i < j)) := nr rfl
@[simp] theorem le_ii (i j : Int) : cmpD .LtE (.int i) (.int j) = some (decide (i ≤ j)) := nr rfl
@[simp] theorem gt_ii (i j : Int) : cmpD .Gt (.int i) (.int j) = some (decide (j < i)) := nr rfl
@[simp] theorem ge_ii (i j : Int) : cmpD .GtE (.int i) (.int j) = some (decide (j ≤ i)) := nr rfl
@[simp] theorem eq_dd (a b : D) : cmpD .Eq a b = D.eq a b := by unfold cmpD; rfl
@[simp] theorem ne_dd (a b : D) : cmpD .NotEq a b = (D.eq a b).map (!·) := by unfold cmpD; rfl
@[simp] theorem blt_ne (f : Bi) (l : List D) (h : f ≠ .list) : bltM f l = M.of (bltD f l) := by unfold bltM; split <;> first | exact absurd rfl h | rfl
@[simp] theorem ix_lst (l : List D) (i : Int) : ixD (.lst l) (.int i) = M.of (atI l i) := nr rfl
@[simp] theorem ix_tup (l : List D) (i : Int) : ixD (.tup l) (.int i) = M.of (atI l i) := nr rfl
@[simp] theorem len_l (l : List D) : bltD .len [.lst l] = some (.int l.length) := nr rfl
@[simp] theorem len_t (l : List D) : bltD .len [.tup l] = some (.int l.length) := nr rfl
@[simp] theorem int_i (i : Int) : bltD .int [.int i] = some (.int i) := nr rfl
@[simp] theorem abs_i (i : Int) : bltD .abs [.int i] = some (.int (if i < 0 then -i else i)) := nr rfl
@[simp] theorem gcd_i (i j : Int) : bltD .gcd [.int i, .int j] = some (.int (Nat.gcd i.natAbs j.natAbs : Nat)) := nr rfl
@[simp] theorem max_i (i j : Int) : bltD .max2 [.int i, .int j] = some (.int (if j > i then j else i)) := nr rfl
@[simp] theorem min_i (i j : Int) : bltD .min2 [.int i, .int j] = some (.int (if j < i then j else i)) := nr rfl
@[simp] theorem tuple_l (l : List D) : bltD .tuple [.lst l] = some (.tup l) := nr rfl
@[simp] theorem tuple_t (l : List D) : bltD .tuple [.tup l] = some (.tup l) := nr rfl
@[simp] theorem list_l (l : List D) : bltM .list [.lst l] = M.pure (.lst l) := nr rfl
@[simp] theorem list_t (l : List D) : bltM .list [.tup l] = M.pure (.lst l) := nr rfl
@[simp] theorem all_l (l : List D) : bltD .all [.lst l] = (D.bools l).map fun bs => .bl (bs.all id) := nr rfl
@[simp] theorem any_l (l : List D) : bltD .any [.lst l] = (D.bools l).map fun bs => .bl (bs.any id) := nr rfl
@[simp] theorem sum_l (l : List D) : bltD .sum [.lst l] = (D.ints l).map fun ns => .int ns.sum := nr rfl
@[simp] theorem sum_t (l : List D) : bltD .sum [.tup l] = (D.ints l).map fun ns => .int ns.sum := nr rfl
@[simp] theorem exs_nil : exs C .nil env = M.pure (.nx, env) := nr rfl
def sq (r : Fl × En) (f : En → M (Fl × En)) : M (Fl × En) := match r with
  | (.nx, env2) => f env2
  | r => M.pure r
@[simp] theorem sq_nx (e : En) (f : En → M (Fl × En)) : sq (.nx, e) f = f e := nr rfl
@[simp] theorem sq_ret (d : D) (e : En) (f : En → M (Fl × En)) : sq (.ret d, e) f = M.pure (.ret d, e) := nr rfl
@[simp] theorem sq_brk (e : En) (f : En → M (Fl × En)) : sq (.brk, e) f = M.pure (.brk, e) := nr rfl
@[simp] theorem sq_cnt (e : En) (f : En → M (Fl × En)) : sq (.cnt, e) f = M.pure (.cnt, e) := nr rfl
@[simp] theorem exs_cons (st : S) (ss : Ss) : exs C (.cons st ss) env = M.bind (ex C st env) fun r => sq r (exs C ss) := nr rfl
@[simp] theorem ex_asg (i : Nat) : ex C (.asg (.nm i p2) ea p) env = M.bind (ev C ea env) fun x => M.pure (.nx, env.set i (.val x)) := nr rfl
@[simp] theorem ex_asgT (ts : Ts) : ex C (.asg (.tp ts k p2) ea p) env = M.bind (ev C ea env) fun x => M.bind (M.of (tgt (.tp ts k p2) x env)) nxt := nr rfl
@[simp] theorem ex_par (oi oj : Bool) (i j : Nat) (k2 : Nat) (p5 p6 : Pos) : ex C (.par oi oj i j p2 p3 p4 k ea eb k2 p5 p) env = M.bind (ev C ea env) fun x => M.bind (ev C eb env) fun y => M.bind (M.of (stF oi i x env)) fun env1 => M.bind (M.of (stF oj j y env1)) nxt := nr rfl
@[simp] theorem ex_par3 (oi oj ol : Bool) (i j l : Nat) (k2 : Nat) (p5 p6 p7 : Pos) : ex C (.par3 oi oj ol i j l p2 p3 p4 p5 k ea eb ec k2 p6 p) env = M.bind (ev C ea env) fun x => M.bind (ev C eb env) fun y => M.bind (ev C ec env) fun z =>
    M.bind (M.of (stF oi i x env)) fun env1 => M.bind (M.of (stF oj j y env1)) fun env2 => M.bind (M.of (stF ol l z env2)) nxt := rfl
@[simp] theorem stF_t (i : Nat) (l : List D) : stF true i (.lst l) env = some (env.set i (.own l)) := nr rfl
@[simp] theorem stF_f (i : Nat) (d : D) : stF false i d env = some (env.set i (.val d)) := by cases d <;> rfl
def ownM (o : Option (List D)) (f : List D → M α) : M α := match o with
  | some l => f l
  | none => M.no
@[simp] theorem ownM_some (l : List D) (f : List D → M α) : ownM (some l) f = f l := nr rfl
def lstM (x : D) (f : List D → M α) : M α := match x with
  | .lst l => f l
  | _ => M.no
@[simp] theorem lstM_lst (l : List D) (f : List D → M α) : lstM (.lst l) f = f l := nr rfl
@[simp] theorem own_0 (l : List D) (e : En) : En.own (.own l :: e) 0 = some l := nr rfl
@[simp] theorem own_s (x : Sl) (e : En) (i : Nat) : En.own (x :: e) (i + 1) = En.own e i := nr rfl
@[simp] theorem dic_0 (l : List (List L2.Key × D)) (e : En) : En.dic (.dic l :: e) 0 = some l := nr rfl
@[simp] theorem dic_s (x : Sl) (e : En) (i : Nat) : En.dic (x :: e) (i + 1) = En.dic e i := nr rfl
@[simp] theorem ex_app (i : Nat) : ex C (.app i p2 p3 p4 ea p) env = ownM (env.own i) fun l => M.bind (ev C ea env) fun d => gd (sizeOk (l.length + 1)) (M.pure (.nx, env.set i (.own (l ++ [d])))) := by
  show (match env.own i with | some l => M.bind (ev C ea env) (fun d => if sizeOk (l.length + 1) = true then nxt (env.set i (.own (l ++ [d]))) else M.no) | none => M.no) = _
  cases env.own i with
  | none => rfl
  | some l => simp only [gd_if]; rfl
@[simp] theorem ex_asgO (i : Nat) : ex C (.asgO i p2 ea p) env = M.bind (ev C ea env) fun x => lstM x fun l => M.pure (.nx, env.set i (.own l)) := by
  show M.bind (ev C ea env) _ = M.bind (ev C ea env) _
  congr 1
@[simp] theorem ex_fz (i : Nat) : ex C (.fz i) env = ownM (env.own i) fun l => M.pure (.nx, env.set i (.val (.lst l))) := by
  show (match env.own i with | some l => _ | none => M.no) = _
  cases env.own i <;> rfl
@[simp] theorem ev_bor (i : Nat) : ev C (.bor i ea) env = ownM (env.own i) fun l => (if ea.isO then flatL else flatM) (ev C ea (env.set i (.val (.lst l)))) := by
  show (match env.own i with | some l => _ | none => M.no) = _
  cases env.own i <;> rfl
@[simp] theorem flatM_eq (m : M D) : flatM m = M.bind m flatJ := nr rfl
@[simp] theorem flatL_eq (m : M D) : flatL m = M.bind m flatK := nr rfl
theorem flatJ_of {d : D} (h : d.flat = true) : flatJ d = M.pure d := by unfold flatJ; rw [if_pos h]
theorem flatK_of {l : List D} (h : D.flats l = true) : flatK (.lst l) = M.pure (.lst l) := by unfold flatK; simp [h]
@[simp] theorem flatJ_int (i : Int) : flatJ (.int i) = M.pure (.int i) := nr rfl
@[simp] theorem flatJ_bl (i : Bool) : flatJ (.bl i) = M.pure (.bl i) := nr rfl
@[simp] theorem ex_whl (b : Ss) : ex C (.whl ec b p) env = whlL (ev C ec) (exs C b) C.wf env := nr rfl
def wstep (test : En → M D) (body : En → M (Fl × En)) (n : Nat) (r : Fl × En) : M (Fl × En) := match r with
  | (.nx, env2) => whlL test body n env2
  | (.cnt, env2) => whlL test body n env2
  | (.brk, env2) => M.pure (.nx, env2)
  | (.ret d, env2) => M.pure (.ret d, env2)
@[simp] theorem wstep_nx (test : En → M D) (body : En → M (Fl × En)) (n : Nat) (e : En) : wstep test body n (.nx, e) = whlL test body n e := nr rfl
@[simp] theorem wstep_ret (test : En → M D) (body : En → M (Fl × En)) (n : Nat) (d : D) (e : En) : wstep test body n (.ret d, e) = M.pure (.ret d, e) := nr rfl
theorem whl_s (test : En → M D) (body : En → M (Fl × En)) (n : Nat) (e : En) : whlL test body (n + 1) e = M.bind (test e) fun x => cnd x (M.bind (body e) (wstep test body n)) (M.pure (.nx, e)) := by
  show M.bind _ _ = M.bind _ _
  congr 1
  funext x
  cases x with
  | bl b => cases b <;> rfl
  | _ => rfl
def dicM (o : Option (List (List L2.Key × D))) (f : List (List L2.Key × D) → M α) : M α := match o with
  | some l => f l
  | none => M.no
@[simp] theorem dicM_some (l : List (List L2.Key × D)) (f : List (List L2.Key × D) → M α) : dicM (some l) f = f l := nr rfl
def keyM (o : Option (List L2.Key)) (f : List L2.Key → M α) : M α := match o with
  | some l => f l
  | none => M.no
@[simp] theorem keyM_some (l : List L2.Key) (f : List L2.Key → M α) : keyM (some l) f = f l := nr rfl
@[simp] theorem ex_dnew (i : Nat) : ex C (.dnew i p2 p3 p) env = M.pure (.nx, env.set i (.dic [])) := nr rfl
@[simp] theorem ex_dnew1 (i : Nat) (es : Es) : ex C (.dnew1 i p2 es k p3 ea p4 p) env = M.bind (evs C es env) fun l => keyM (D.keyOf l) fun key => gd (sizeOk l.length) (M.bind (ev C ea env) fun x => M.pure (.nx, env.set i (.dic [(key, x)]))) := by
  simp only [← gd_if]
  show M.bind (evs C es env) _ = M.bind (evs C es env) _
  congr 1
@[simp] theorem ex_dput (i : Nat) (es : Es) : ex C (.dput i p2 es k p3 p4 ea p) env = M.bind (ev C ea env) fun x => dicM (env.dic i) fun kvs => M.bind (evs C es env) fun l => keyM (D.keyOf l) fun key =>
    gd (sizeOk l.length) (gd (sizeOk (kvs.length + 1)) (M.pure (.nx, env.set i (.dic (dPut kvs key x))))) := by
  simp only [← gd_if]
  show M.bind (ev C ea env) _ = M.bind (ev C ea env) _
  congr 1
@[simp] theorem ev_dget (i : Nat) (es : Es) : ev C (.dget i es k p2 p3 p) env = dicM (env.dic i) fun kvs => M.bind (evs C es env) fun l => keyM (D.keyOf l) fun key => gd (sizeOk l.length) (M.of (dVal kvs key)) := by
  simp only [← gd_if]
  show (match env.dic i with | some kvs => _ | none => M.no) = _
  cases env.dic i with
  | none => rfl
  | some kvs =>
    show M.bind (evs C es env) _ = M.bind (evs C es env) _
    congr 1
@[simp] theorem ev_dgt (i : Nat) (es : Es) : ev C (.dgt i es k p2 ea p3 p4 p) env = dicM (env.dic i) fun kvs => M.bind (evs C es env) fun l => keyM (D.keyOf l) fun key => gd (sizeOk l.length) (M.bind (ev C ea env) (fun x => M.pure ((dVal kvs key).getD x))) := by
  simp only [← gd_if]
  show (match env.dic i with | some kvs => _ | none => M.no) = _
  cases env.dic i with
  | none => rfl
  | some kvs =>
    show M.bind (evs C es env) _ = M.bind (evs C es env) _
    congr 1
@[simp] theorem keyOf_nil : D.keyOf [] = some [] := nr rfl
@[simp] theorem keyOf_int (i : Int) (l : List D) : D.keyOf (.int i :: l) = (D.keyOf l).map (Sum.inl i :: ·) := nr rfl
@[simp] theorem ex_expr : ex C (.expr ea p) env = M.bind (ev C ea env) fun _ => M.pure (.nx, env) := nr rfl
@[simp] theorem ex_ret : ex C (.ret ea p) env = M.bind (ev C ea env) fun x => M.pure (.ret x, env) := nr rfl
@[simp] theorem ex_iff (a b : Ss) : ex C (.iff ec a b p) env = M.bind (ev C ec env) fun x => cnd x (exs C a env) (exs C b env) := nr rfl
@[simp] theorem ex_fr (t : T) (it : I) (b : Ss) : ex C (.fr t it b p) env = M.bind (evI C it env) fun l => forL (tgt t) (exs C b) l env := nr rfl
@[simp] theorem ex_rai (g : Nat) (x : Str) : ex C (.rai g x k p4 p3 p2 p) env = M.raise g 0 := nr rfl
@[simp] theorem nxt_eq : nxt env = M.pure (.nx, env) := nr rfl
@[simp] theorem get_0 (d : D) (e : En) : En.get (.val d :: e) 0 = some d := nr rfl
@[simp] theorem get_s (x : Sl) (e : En) (i : Nat) : En.get (x :: e) (i + 1) = En.get e i := nr rfl
@[simp] theorem eq_ii (i j : Int) : D.eq (.int i) (.int j) = some (decide (i = j)) := by
  show (if SeqAt.shaped (.int i) && SeqAt.shaped (.int j) then some (PyData.eqv (.int i) (.int j)) else none) = _
  rw [show (SeqAt.shaped (PyData.int i) && SeqAt.shaped (PyData.int j)) = true from rfl]
  rfl
def retD (r : Fl × En) : M D := match r.1 with
  | .nx => M.pure .non
  | .ret x => M.pure x
  | _ => M.no
@[simp] theorem retD_nx (e : En) : retD (.nx, e) = M.pure .non := nr rfl
@[simp] theorem retD_ret (d : D) (e : En) : retD (.ret d, e) = M.pure d := nr rfl
theorem bodyM_eq (C : Cl) (d : Df) (args : List D) (h : args.length = d.np) : bodyM C d args = M.bind (exs C d.body (enter d args)) retD := by
  unfold bodyM; rw [if_pos h]; rfl
def fstep (tg : D → En → Option En) (body : En → M (Fl × En)) (ds : List D) (r : Fl × En) : M (Fl × En) := match r with
  | (.nx, env2) => forL tg body ds env2
  | (.cnt, env2) => forL tg body ds env2
  | (.brk, env2) => M.pure (.nx, env2)
  | (.ret d, env2) => M.pure (.ret d, env2)
@[simp] theorem fstep_nx (tg : D → En → Option En) (body : En → M (Fl × En)) (ds : List D) (e : En) : fstep tg body ds (.nx, e) = forL tg body ds e := nr rfl
@[simp] theorem fstep_cnt (tg : D → En → Option En) (body : En → M (Fl × En)) (ds : List D) (e : En) : fstep tg body ds (.cnt, e) = forL tg body ds e := nr rfl
@[simp] theorem fstep_brk (tg : D → En → Option En) (body : En → M (Fl × En)) (ds : List D) (e : En) : fstep tg body ds (.brk, e) = M.pure (.nx, e) := nr rfl
@[simp] theorem fstep_ret (tg : D → En → Option En) (body : En → M (Fl × En)) (ds : List D) (d : D) (e : En) : fstep tg body ds (.ret d, e) = M.pure (.ret d, e) := nr rfl
@[simp] theorem forL_nil (tg : D → En → Option En) (body : En → M (Fl × En)) : forL tg body [] env = M.pure (.nx, env) := nr rfl
theorem forL_cons {tg : D → En → Option En} {body : En → M (Fl × En)} {d : D} {ds : List D} {env1 : En} (h : tg d env = some env1) : forL tg body (d :: ds) env = M.bind (body env1) (fstep tg body ds) := by
  show (match tg d env with | none => M.no | some env1 => _) = _
  rw [h]
  rfl
@[simp] theorem tgt_nm (i : Nat) (d : D) : tgt (.nm i p) d env = some (env.set i (.val d)) := nr rfl
@[simp] theorem tgt_tp (ts : Ts) (l : List D) : tgt (.tp ts k p) (.tup l) env = tgts ts l env := nr rfl
@[simp] theorem tgts_nil : tgts .nil [] env = some env := nr rfl
@[simp] theorem tgts_cons (i : Nat) (ts : Ts) (d : D) (ds : List D) : tgts (.cons (.nm i p) ts) (d :: ds) env = tgts ts ds (env.set i (.val d)) := nr rfl
@[simp] theorem compL_nil (tg : D → Option En) (test elt : En → M D) (acc : List D) : compL tg test elt [] acc = M.pure (.lst acc) := nr rfl
theorem compL_cons {tg : D → Option En} {test elt : En → M D} {d : D} {ds acc : List D} {e : En} (h : tg d = some e) : compL tg test elt (d :: ds) acc = M.bind (M.calm (test e)) fun b => cnd b (M.bind (M.calm (elt e)) fun x => if sizeOk (acc.length + 1) then compL tg test elt ds (acc ++ [x]) else M.no) (compL tg test elt ds acc) := by
  show (match tg d with | none => M.no | some env => _) = _
  rw [h]
  rfl
def rdc0 : M D := fun s => match s with
  | some (x, y) => some (.ok (.int x), some (x, y))
  | none => none
def rdc1 : M D := fun s => match s with
  | some (x, y) => some (.ok (.int y), some (x, y))
  | none => none
def wrc0 (n : Int) (env : En) : M (Fl × En) := fun s => match s with
  | some (_, y) => some (.ok (.nx, env), some (n, y))
  | none => none
def wrc1 (n : Int) (env : En) : M (Fl × En) := fun s => match s with
  | some (x, _) => some (.ok (.nx, env), some (x, n))
  | none => none
@[simp] theorem ix_c0 : ixD .cup (.int 0) = rdc0 := by
  funext s
  cases s with
  | none => rfl
  | some q => rfl
@[simp] theorem ix_c1 : ixD .cup (.int 1) = rdc1 := by
  funext s
  cases s with
  | none => rfl
  | some q => rfl
@[simp] theorem b_rdc0 (f : D → M α) (x y : Int) : M.bind rdc0 f (some (x, y)) = f (.int x) (some (x, y)) := nr rfl
@[simp] theorem b_rdc1 (f : D → M α) (x y : Int) : M.bind rdc1 f (some (x, y)) = f (.int y) (some (x, y)) := nr rfl
@[simp] theorem b_wrc0 (n : Int) (f : Fl × En → M α) (x y : Int) : M.bind (wrc0 n env) f (some (x, y)) = f (.nx, env) (some (n, y)) := nr rfl
@[simp] theorem b_wrc1 (n : Int) (f : Fl × En → M α) (x y : Int) : M.bind (wrc1 n env) f (some (x, y)) = f (.nx, env) (some (x, n)) := nr rfl
def cupD (d : Option D) (m : M α) : M α := match d with
  | some .cup => m
  | _ => M.no
@[simp] theorem cupD_cup (m : M α) : cupD (some .cup) m = m := nr rfl
def setCup (k d : D) (env : En) : M (Fl × En) := match k, d with
  | .int k, .int n => fun s => match s with
    | some (x, y) => if k = 0 then some (.ok (.nx, env), some (n, y)) else if k = 1 then some (.ok (.nx, env), some (x, n)) else none
    | none => none
  | _, _ => M.no
@[simp] theorem setCup_0 (n : Int) : setCup (.int 0) (.int n) env = wrc0 n env := by
  funext s
  cases s with
  | none => rfl
  | some q => rfl
@[simp] theorem setCup_1 (n : Int) : setCup (.int 1) (.int n) env = wrc1 n env := by
  funext s
  cases s with
  | none => rfl
  | some q => rfl
@[simp] theorem ex_setC (i : Nat) : ex C (.setC i p2 ea p3 eb p) env = M.bind (ev C eb env) fun d => cupD (env.get i) (M.bind (ev C ea env) fun k => setCup k d env) := by
  show M.bind (ev C eb env) _ = M.bind (ev C eb env) _
  have h : ∀ d, (match env.get i with
    | some .cup => M.bind (ev C ea env) fun k => match k, d with
      | .int k, .int n => (fun s => match s with
        | some (x, y) => if k = 0 then some (.ok (.nx, env), some (n, y)) else if k = 1 then some (.ok (.nx, env), some (x, n)) else none
        | none => none : M (Fl × En))
      | _, _ => M.no
    | _ => M.no) = cupD (env.get i) (M.bind (ev C ea env) fun k => setCup k d env) := fun d => by
    cases env.get i with
    | none => rfl
    | some d0 => cases d0 <;> rfl
  exact congrArg (M.bind (ev C eb env)) (funext h)
theorem bind_ite (c : Prop) [Decidable c] (a b : M α) (s : St2) : (if c then a else b) s = if c then a s else b s := by by_cases h : c <;> simp [h]
end
end Co
set_option Elab.async false
set_option linter.all false
set_option maxRecDepth 100000
set_option maxHeartbeats 4000000
namespace Co
open PySem PySem.Spec PyProof.Rows L2
theorem sizeOk_le {n : Nat} (h : n ≤ 16777216) : sizeOk n = true := by unfold sizeOk; simp [h]
theorem forL_inv {tg : D → En → Option En} {body : En → M (Fl × En)} (I : Nat → En → St2 → Prop) : ∀ (ds : List D) (k : Nat), (∀ i d, ds[i]? = some d → ∀ e s, I (k + i) e s → ∃ e1 e2 s2, tg d e = some e1 ∧ body e1 s = some (.ok (.nx, e2), s2) ∧ I (k + i + 1) e2 s2) →
    ∀ e s, I k e s → ∃ e2 s2, forL tg body ds e s = some (.ok (.nx, e2), s2) ∧ I (k + ds.length) e2 s2
  | [], k, _, e, s, h => ⟨e, s, rfl, h⟩
  | d :: ds, k, hs, e, s, h => by
    obtain ⟨e1, e2, s2, h1, h2, h3⟩ := hs 0 d rfl e s h
    obtain ⟨e3, s3, h4, h5⟩ := forL_inv I ds (k + 1) (fun i d hd e s h => by
      have := hs (i + 1) d (by simpa using hd) e s (by rw [show k + (i + 1) = k + 1 + i by omega]; exact h)
      rw [show k + (i + 1) + 1 = k + 1 + i + 1 by omega] at this
      exact this) e2 s2 h3
    refine ⟨e3, s3, ?_, by rw [List.length_cons, show k + (ds.length + 1) = k + 1 + ds.length by omega]; exact h5⟩
    rw [forL_cons h1]
    exact (bind_s h2).trans h4
theorem forL_run {tg : D → En → Option En} {body : En → M (Fl × En)} : ∀ (ds : List D) (E : Nat → En), (∀ i d, ds[i]? = some d → ∃ e1, tg d (E i) = some e1 ∧ body e1 = M.pure (.nx, E (i + 1))) → forL tg body ds (E 0) = M.pure (.nx, E ds.length)
  | [], E, _ => rfl
  | d :: ds, E, h => by
    obtain ⟨e1, h1, h2⟩ := h 0 d rfl
    rw [forL_cons h1, h2]
    exact forL_run ds (fun i => E (i + 1)) fun i d hd => h (i + 1) d (by simpa using hd)
theorem whl_run {test : En → M D} {body : En → M (Fl × En)} : ∀ (N : Nat) (E : Nat → En) (n : Nat), N < n → (∀ i, i < N → test (E i) = M.pure (.bl true) ∧ body (E i) = M.pure (.nx, E (i + 1))) → test (E N) = M.pure (.bl false) → whlL test body n (E 0) = M.pure (.nx, E N)
  | 0, E, n + 1, _, _, hf => by rw [whl_s, hf]; rfl
  | N + 1, E, n + 1, hn, h, hf => by
    obtain ⟨h1, h2⟩ := h 0 (by omega)
    rw [whl_s, h1]
    show M.bind (body (E 0)) _ = _
    rw [h2]
    exact whl_run N (fun i => E (i + 1)) n (by omega) (fun i hi => h (i + 1) (by omega)) hf
  | N, E, 0, hn, _, _ => by omega
theorem compL_pure {tg : D → Option En} {test elt : En → M D} (p : D → Bool) (f : D → D) : ∀ (ds acc : List D), (∀ d, d ∈ ds → ∃ e, tg d = some e ∧ test e = M.pure (.bl (p d)) ∧ (p d = true → elt e = M.pure (f d))) → acc.length + ds.length ≤ 16777216 →
    compL tg test elt ds acc = M.pure (.lst (acc ++ (ds.filter p).map f))
  | [], acc, _, _ => by simp
  | d :: ds, acc, h, hl => by
    obtain ⟨e, h1, h2, h3⟩ := h d (by simp)
    rw [compL_cons h1, h2]
    simp only [List.length_cons] at hl
    cases hp : p d with
    | false =>
      rw [List.filter_cons_of_neg (by simp [hp])]
      show compL tg test elt ds acc = _
      exact compL_pure p f ds acc (fun d hd => h d (by simp [hd])) (by omega)
    | true =>
      rw [List.filter_cons_of_pos hp, List.map_cons]
      show M.bind (M.calm (elt e)) _ = _
      rw [h3 hp]
      show (if sizeOk (acc.length + 1) = true then compL tg test elt ds (acc ++ [f d]) else M.no) = _
      rw [if_pos (sizeOk_le (by omega))]
      rw [compL_pure p f ds (acc ++ [f d]) (fun d hd => h d (by simp [hd])) (by simp; omega)]
      simp
theorem compL_map {tg : D → Option En} {test elt : En → M D} (f : D → D) (ds : List D) (h : ∀ d, d ∈ ds → ∃ e, tg d = some e ∧ test e = M.pure (.bl true) ∧ elt e = M.pure (f d)) (hl : ds.length ≤ 16777216) :
    compL tg test elt ds [] = M.pure (.lst (ds.map f)) := by
  rw [compL_pure (fun _ => true) f ds [] (fun d hd => by obtain ⟨e, a, b, c⟩ := h d hd; exact ⟨e, a, b, fun _ => c⟩) (by simpa using hl)]
  rw [List.filter_eq_self.mpr (fun _ _ => rfl)]
  rfl
theorem compL_inv {tg : D → Option En} {test elt : En → M D} (I : List D → St2 → Prop) : ∀ (ds acc : List D) (s : St2), (∀ d, d ∈ ds → ∀ acc s, I acc s → ∃ e x s', tg d = some e ∧ test e = M.pure (.bl true) ∧ elt e s = some (.ok x, s') ∧ I (acc ++ [x]) s') → acc.length + ds.length ≤ 16777216 → I acc s →
    ∃ acc' s', compL tg test elt ds acc s = some (.ok (.lst acc'), s') ∧ I acc' s' ∧ acc'.length = acc.length + ds.length
  | [], acc, s, _, _, h => ⟨acc, s, rfl, h, rfl⟩
  | d :: ds, acc, s, h, hl, hi => by
    obtain ⟨e, x, s', h1, h2, h3, h4⟩ := h d (by simp) acc s hi
    simp only [List.length_cons] at hl
    obtain ⟨acc', s2, h5, h6, h7⟩ := compL_inv I ds (acc ++ [x]) s' (fun d hd => h d (by simp [hd])) (by simp; omega) h4
    refine ⟨acc', s2, ?_, h6, by rw [h7]; simp; omega⟩
    rw [compL_cons h1, h2]
    show M.bind (M.calm (elt e)) _ s = _
    have h8 : M.calm (elt e) s = some (.ok x, s') := by unfold M.calm; rw [h3]
    rw [bind_s h8]
    show (if sizeOk (acc.length + 1) = true then compL tg test elt ds (acc ++ [x]) else M.no) s' = _
    rw [if_pos (sizeOk_le (by omega))]
    exact h5
theorem rangeD_get {lo : Int} {n i : Nat} {d : D} (h : (rangeD lo n)[i]? = some d) : i < n ∧ d = .int (lo + (i : Nat)) := by
  have hi : i < n := by
    have := (List.getElem?_eq_some_iff.mp h).1
    simpa [rangeD] using this
  refine ⟨hi, ?_⟩
  simp [rangeD, hi] at h
  exact h.symm
theorem rangeD_mem {lo : Int} {n : Nat} {d : D} (h : d ∈ rangeD lo n) : ∃ i, i < n ∧ d = .int (lo + (i : Nat)) := by
  unfold rangeD at h
  obtain ⟨i, hi, rfl⟩ := List.mem_map.mp h
  exact ⟨i, by simpa using hi, rfl⟩
@[simp] theorem rangeD_len (lo : Int) (n : Nat) : (rangeD lo n).length = n := by simp [rangeD]
theorem i64_of {k : Int} (h : -1000000 ≤ k) (h2 : k ≤ 1000000) : int64 k = true := by
  unfold int64
  have : (-(2 ^ 62) : Int) ≤ k := by omega
  have h3 : k < (2 ^ 62 : Int) := by omega
  rw [decide_eq_true this, decide_eq_true h3]; rfl
theorem atI_n {α : Type} {l : List α} {i : Nat} {x : α} (h : l[i]? = some x) : atI l (i : Int) = some x := by
  have hi := (List.getElem?_eq_some_iff.mp h).1
  unfold atI ixN
  rw [if_pos (by omega), if_pos (by omega)]
  show l[(i : Int).toNat]? = some x
  rw [Int.toNat_natCast]
  exact h
theorem atI_last {α : Type} {l : List α} {x : α} (h : l.getLast? = some x) : atI l (-1) = some x := by
  have hp : 0 < l.length := by
    cases l with
    | nil => cases h
    | cons a r => simp
  unfold atI ixN
  rw [if_neg (by omega), if_pos (by omega)]
  show l[((-1 : Int) + l.length).toNat]? = some x
  rw [show ((-1 : Int) + l.length).toNat = l.length - 1 by omega, ← List.getLast?_eq_getElem?]
  exact h
theorem cut_to {α : Type} (l : List α) (k : Nat) (h : k ≤ l.length) : cutD l none (some (k : Int)) = l.take k := by
  have e : HT.sIx l.length l.length (some (k : Int)) = k := by
    unfold HT.sIx
    simp
    rw [if_neg (by omega)]
    omega
  unfold cutD
  rw [e]
  simp [HT.sIx]
theorem dVal_put (kvs : List (List L2.Key × D)) (k j : List L2.Key) (d : D) : dVal (dPut kvs k d) j = if k = j then some d else dVal kvs j := by
  induction kvs with
  | nil => simp [dPut, dVal]
  | cons p r ih =>
    unfold dPut
    by_cases e : p.1 = k
    · rw [if_pos e]
      unfold dVal
      by_cases q : k = j
      · rw [if_pos q, if_pos q]
      · rw [if_neg q, if_neg q, if_neg (fun z => q (e.symm.trans z))]
    · rw [if_neg e]
      unfold dVal
      rw [ih]
      by_cases q : p.1 = j
      · rw [if_pos q, if_pos q, if_neg (fun z => e (q.trans z.symm))]
      · rw [if_neg q, if_neg q]
theorem dPut_len (kvs : List (List L2.Key × D)) (k : List L2.Key) (d : D) : (dPut kvs k d).length ≤ kvs.length + 1 := by
  induction kvs with
  | nil => simp [dPut]
  | cons p r ih =>
    unfold dPut
    by_cases e : p.1 = k
    · rw [if_pos e]; simp
    · rw [if_neg e]; simp; exact ih
def tI (l : List Int) : D := .tup (l.map .int)
mutual
def sm : D → D → Bool
  | .non, .non => true
  | .bl a, .bl b => decide (a = b)
  | .int i, .int j => decide (i = j)
  | .str x, .str y => decide (x = y)
  | .tup a, .tup b => sms a b
  | .lst a, .lst b => sms a b
  | _, _ => false
def sms : List D → List D → Bool
  | [], [] => true
  | a :: as, b :: bs => sm a b && sms as bs
  | _, _ => false
end
mutual
def D.pl : D → Bool
  | .non => true
  | .bl _ => true
  | .int _ => true
  | .str _ => true
  | .tup l => D.pls l
  | .lst l => D.pls l
  | _ => false
def D.pls : List D → Bool
  | [] => true
  | d :: ds => d.pl && D.pls ds
end
theorem pls_mem : ∀ {l : List D}, D.pls l = true → ∀ d ∈ l, d.pl = true
  | [], _, d, h => by cases h
  | x :: l, hp, d, h => by
    rw [D.pls, Bool.and_eq_true_iff] at hp
    rcases List.mem_cons.mp h with rfl | h
    · exact hp.1
    · exact pls_mem hp.2 d h
theorem pls_of : ∀ {l : List D}, (∀ d ∈ l, d.pl = true) → D.pls l = true
  | [], _ => rfl
  | x :: l, h => by
    rw [D.pls, h x (by simp), pls_of fun d hd => h d (by simp [hd])]
    rfl
mutual
theorem sm_eq : ∀ a b : D, sm a b = true → a = b
  | .non, b, h => by cases b <;> simp_all [sm]
  | .bl _, b, h => by cases b <;> simp_all [sm]
  | .int _, b, h => by cases b <;> simp_all [sm]
  | .str _, b, h => by cases b <;> simp_all [sm]
  | .tup x, b, h => by
    cases b with
    | tup y => rw [sm] at h; rw [sms_eq x y h]
    | _ => simp [sm] at h
  | .lst x, b, h => by
    cases b with
    | lst y => rw [sm] at h; rw [sms_eq x y h]
    | _ => simp [sm] at h
  | .fn _, b, h => by cases b <;> simp_all [sm]
  | .cup, b, h => by cases b <;> simp_all [sm]
  | .thk, b, h => by cases b <;> simp_all [sm]
  | .exc _ _, b, h => by cases b <;> simp_all [sm]
  | .scr _, b, h => by cases b <;> simp_all [sm]
theorem sms_eq : ∀ a b : List D, sms a b = true → a = b
  | [], [], _ => rfl
  | [], _ :: _, h => by simp [sms] at h
  | _ :: _, [], h => by simp [sms] at h
  | a :: as, b :: bs, h => by
    rw [sms, Bool.and_eq_true_iff] at h
    rw [sm_eq a b h.1, sms_eq as bs h.2]
end
mutual
theorem sm_refl : ∀ a : D, a.pl = true → sm a a = true
  | .non, _ => by simp [sm]
  | .bl _, _ => by simp [sm]
  | .int _, _ => by simp [sm]
  | .str _, _ => by simp [sm]
  | .tup x, h => by rw [sm]; exact sms_refl x h
  | .lst x, h => by rw [sm]; exact sms_refl x h
  | .fn _, h => by cases h
  | .cup, h => by cases h
  | .thk, h => by cases h
  | .exc _ _, h => by cases h
  | .scr _, h => by cases h
theorem sms_refl : ∀ a : List D, D.pls a = true → sms a a = true
  | [], _ => rfl
  | a :: as, h => by
    rw [D.pls, Bool.and_eq_true_iff] at h
    rw [sms, sm_refl a h.1, sms_refl as h.2]; rfl
end
theorem sms_len : ∀ a b : List D, sms a b = true → a.length = b.length
  | a, b, h => by rw [sms_eq a b h]
theorem pys_int (l : List Int) : D.pys (l.map .int) = some (l.map .int) := by
  induction l with
  | nil => rfl
  | cons a l ih => show (match D.py (.int a), D.pys (l.map .int) with | some p, some ps => some (p :: ps) | _, _ => none) = _; rw [ih]; rfl
theorem pys_tI (l : List (List Int)) : D.pys (l.map tI) = some (l.map fun r => .tuple (r.map .int)) := by
  induction l with
  | nil => rfl
  | cons a l ih =>
    show (match (D.pys (a.map .int)).map PyData.tuple, D.pys (l.map tI) with | some p, some ps => some (p :: ps) | _, _ => none) = _
    rw [ih, pys_int]; rfl
theorem can_int (l : List Int) : PyData.canLayAll0 (l.map .int) = true := by
  induction l with
  | nil => simp [PyData.canLayAll0]
  | cons a l ih => simp [PyData.canLayAll0, PyData.canLay0, ih]
theorem dep_int (l : List Int) : PyData.depthAll (l.map .int) = 0 := by
  induction l with
  | nil => simp [PyData.depthAll]
  | cons a l ih => simp [PyData.depthAll, PyData.depth, ih]
theorem can_tI (l : List (List Int)) : PyData.canLayAll0 (l.map fun r => .tuple (r.map .int)) = true := by
  induction l with
  | nil => simp [PyData.canLayAll0]
  | cons a l ih => simp [PyData.canLayAll0, PyData.canLay0, can_int, ih]
theorem dep_tI (l : List (List Int)) : PyData.depthAll (l.map fun r => .tuple (r.map .int)) ≤ 1 := by
  induction l with
  | nil => simp [PyData.depthAll]
  | cons a l ih => simp [PyData.depthAll, PyData.depth, dep_int, ih]
theorem eqv_int : ∀ l m : List Int, PyData.eqvAll (l.map .int) (m.map .int) = decide (l = m)
  | [], [] => by simp [PyData.eqvAll]
  | [], _ :: _ => by simp [PyData.eqvAll]
  | _ :: _, [] => by simp [PyData.eqvAll]
  | a :: l, b :: m => by
    simp only [List.map_cons, PyData.eqvAll, PyData.eqv, eqv_int l m]
    by_cases h : a = b <;> simp [h]
theorem eqv_tI : ∀ l m : List (List Int), PyData.eqvAll (l.map fun r => .tuple (r.map .int)) (m.map fun r => .tuple (r.map .int)) = decide (l = m)
  | [], [] => by simp [PyData.eqvAll]
  | [], _ :: _ => by simp [PyData.eqvAll]
  | _ :: _, [] => by simp [PyData.eqvAll]
  | a :: l, b :: m => by
    simp only [List.map_cons, PyData.eqvAll, PyData.eqv, eqv_tI l m, eqv_int]
    by_cases h : a = b <;> simp [h]
theorem eq_lint (l m : List Int) : D.eq (.lst (l.map .int)) (.lst (m.map .int)) = some (decide (l = m)) := by
  unfold D.eq
  show (match (D.pys (l.map .int)).map PyData.list, (D.pys (m.map .int)).map PyData.list with | some p, some q => if SeqAt.shaped p && SeqAt.shaped q then some (PyData.eqv p q) else none | _, _ => none) = _
  rw [pys_int, pys_int]
  simp [SeqAt.shaped, PyData.canLay0, PyData.depth, can_int, dep_int, PyData.eqv, eqv_int]
theorem eq_ltI (l m : List (List Int)) : D.eq (.lst (l.map tI)) (.lst (m.map tI)) = some (decide (l = m)) := by
  unfold D.eq
  show (match (D.pys (l.map tI)).map PyData.list, (D.pys (m.map tI)).map PyData.list with | some p, some q => if SeqAt.shaped p && SeqAt.shaped q then some (PyData.eqv p q) else none | _, _ => none) = _
  rw [pys_tI, pys_tI]
  have h1 := dep_tI l
  have h2 := dep_tI m
  simp [SeqAt.shaped, PyData.canLay0, PyData.depth, can_tI, PyData.eqv, eqv_tI, show PyData.depthAll (l.map fun r => .tuple (r.map .int)) + 1 ≤ 64 by omega, show PyData.depthAll (m.map fun r => .tuple (r.map .int)) + 1 ≤ 64 by omega]
theorem ints_map (l : List Int) : D.ints (l.map .int) = some l := by
  induction l with
  | nil => rfl
  | cons a l ih => show (D.ints (l.map .int)).map (a :: ·) = _; rw [ih]; rfl
theorem bools_map (l : List Bool) : D.bools (l.map .bl) = some l := by
  induction l with
  | nil => rfl
  | cons a l ih => show (D.bools (l.map .bl)).map (a :: ·) = _; rw [ih]; rfl
theorem flats_int (l : List Int) : D.flats (l.map .int) = true := by
  induction l with
  | nil => rfl
  | cons a l ih => show (true && D.flats (l.map .int)) = true; rw [ih]; rfl
theorem flat_tI (l : List Int) : (tI l).flat = true := flats_int l
theorem pls_int (l : List Int) : D.pls (l.map .int) = true := pls_of fun d hd => by
  obtain ⟨i, _, rfl⟩ := List.mem_map.mp hd
  rfl
theorem pl_tI (l : List Int) : (tI l).pl = true := pls_int l
end Co
set_option Elab.async false
set_option linter.all false
set_option maxRecDepth 100000
set_option maxHeartbeats 0
namespace Kx
open PySem PySem.Spec PyProof.Rows L2 Co
def top (i : Nat) : Stmt := PySem.Challenge.pw_sumsclosed_k57_whole_ruled_triangles.main.body.getD i (.Pass ⟨0, 0, 0, 0⟩)
def b_law_e0 : E := .bin .Sub (.call 5 (.cons (.v 1 ⟨146, 32, 146, 35⟩) (.cons (.bin .Add (.bin .Mult (.int 2 0 ⟨146, 37, 146, 38⟩) (.v 3 ⟨146, 41, 146, 45⟩) ⟨146, 37, 146, 45⟩) (.int 1 0 ⟨146, 48, 146, 49⟩) ⟨146, 37, 146, 49⟩) .nil)) ⟨146, 22, 146, 31⟩ ⟨146, 22, 146, 50⟩) (.v 3 ⟨146, 53, 146, 57⟩) ⟨146, 22, 146, 57⟩
def b_law_b0 : Ss := (.cons (.asg (.nm 3 ⟨145, 8, 145, 12⟩) (.call 3 (.cons (.v 1 ⟨145, 25, 145, 28⟩) (.cons (.lst (.cons (.int 1 0 ⟨145, 31, 145, 32⟩) (.cons (.int 3 0 ⟨145, 34, 145, 35⟩) (.cons (.int 10 0 ⟨145, 37, 145, 39⟩) .nil))) ⟨145, 30, 145, 40⟩) .nil)) ⟨145, 15, 145, 24⟩ ⟨145, 15, 145, 41⟩) ⟨145, 8, 145, 41⟩) (.cons (.asg (.nm 4 ⟨146, 8, 146, 12⟩) (.blt .tuple 4 (.cons (.lc (b_law_e0) (.nm 10 ⟨146, 62, 146, 66⟩) (.rg1 2 (.int 6 0 ⟨146, 76, 146, 77⟩) ⟨146, 70, 146, 75⟩ ⟨146, 70, 146, 78⟩) .nil { kind := .function, names := [((Str.ofString ".0"), .«local»), ((Str.ofString "part"), .«local»), ((Str.ofString "_law_roll"), .globalImplicit), ((Str.ofString "cup"), .free), ((Str.ofString "wide"), .free)], isGenerator := false, isCoroutine := false, more := [] } [10] [1, 3] [5] ⟨146, 21, 146, 79⟩) .nil) ⟨146, 15, 146, 20⟩ ⟨146, 15, 146, 80⟩) ⟨146, 8, 146, 80⟩) (.cons (.asg (.nm 4 ⟨147, 8, 147, 12⟩) (.ife (.cmp .Eq (.call 5 (.cons (.v 1 ⟨147, 51, 147, 54⟩) (.cons (.int 2 0 ⟨147, 56, 147, 57⟩) .nil)) ⟨147, 41, 147, 50⟩ ⟨147, 41, 147, 58⟩) (.int 0 0 ⟨147, 62, 147, 63⟩) ⟨147, 41, 147, 63⟩) (.bin .Add (.sl (.v 4 ⟨147, 15, 147, 19⟩) .no (.so (.int 5 0 ⟨147, 21, 147, 22⟩)) ⟨147, 20, 147, 22⟩ ⟨147, 15, 147, 23⟩) (.tup (.cons (.neg (.ix (.v 4 ⟨147, 28, 147, 32⟩) (.int 2 0 ⟨147, 33, 147, 34⟩) ⟨147, 28, 147, 35⟩) ⟨147, 27, 147, 35⟩) .nil) 0 ⟨147, 26, 147, 37⟩) ⟨147, 15, 147, 37⟩) (.v 4 ⟨147, 69, 147, 73⟩) ⟨147, 15, 147, 73⟩) ⟨147, 8, 147, 73⟩) (.cons (.iff (.not (.call 6 (.cons (.v 1 ⟨148, 26, 148, 29⟩) (.cons (.v 4 ⟨148, 31, 148, 35⟩) (.cons (.bin .Add (.int 1 0 ⟨148, 37, 148, 38⟩) (.call 3 (.cons (.v 1 ⟨148, 51, 148, 54⟩) (.cons (.lst (.cons (.call 5 (.cons (.v 1 ⟨148, 67, 148, 70⟩) (.cons (.int 6 0 ⟨148, 72, 148, 73⟩) .nil)) ⟨148, 57, 148, 66⟩ ⟨148, 57, 148, 74⟩) (.cons (.call 5 (.cons (.v 1 ⟨148, 86, 148, 89⟩) (.cons (.int 30 0 ⟨148, 91, 148, 93⟩) .nil)) ⟨148, 76, 148, 85⟩ ⟨148, 76, 148, 94⟩) .nil)) ⟨148, 56, 148, 95⟩) .nil)) ⟨148, 41, 148, 50⟩ ⟨148, 41, 148, 96⟩) ⟨148, 37, 148, 96⟩) .nil))) ⟨148, 15, 148, 25⟩ ⟨148, 15, 148, 97⟩) ⟨148, 11, 148, 97⟩) (.cons (.ret (.bl false 0 ⟨149, 19, 149, 24⟩) ⟨149, 12, 149, 24⟩) .nil) .nil ⟨148, 8, 149, 24⟩) .nil))))
def b_law_b1 : Ss := (.cons (.iff (.not (.call 6 (.cons (.v 1 ⟨161, 26, 161, 29⟩) (.cons (.v 4 ⟨161, 31, 161, 35⟩) (.cons (.int 12 0 ⟨161, 37, 161, 39⟩) .nil))) ⟨161, 15, 161, 25⟩ ⟨161, 15, 161, 40⟩) ⟨161, 11, 161, 40⟩) (.cons (.ret (.bl false 0 ⟨162, 19, 162, 24⟩) ⟨162, 12, 162, 24⟩) .nil) .nil ⟨161, 8, 162, 24⟩) .nil)
def b_law : Ss := (.cons (.asg (.nm 1 ⟨143, 4, 143, 7⟩) (.call 1 (.cons (.v 0 ⟨143, 19, 143, 25⟩) .nil) ⟨143, 10, 143, 18⟩ ⟨143, 10, 143, 26⟩) ⟨143, 4, 143, 26⟩) (.cons (.fr (.nm 2 ⟨144, 8, 144, 12⟩) (.rg1 2 (.int 7 0 ⟨144, 22, 144, 23⟩) ⟨144, 16, 144, 21⟩ ⟨144, 16, 144, 24⟩) b_law_b0 ⟨144, 4, 149, 24⟩) (.cons (.par3 false false false 5 6 7 ⟨150, 4, 150, 8⟩ ⟨150, 10, 150, 14⟩ ⟨150, 16, 150, 19⟩ ⟨150, 4, 150, 19⟩ 0 (.tup (.cons (.int 1 0 ⟨150, 24, 150, 25⟩) (.cons (.int 0 0 ⟨150, 27, 150, 28⟩) (.cons (.int 0 0 ⟨150, 30, 150, 31⟩) (.cons (.int 1 0 ⟨150, 33, 150, 34⟩) (.cons (.int 0 0 ⟨150, 36, 150, 37⟩) (.cons (.int 0 0 ⟨150, 39, 150, 40⟩) .nil)))))) 0 ⟨150, 23, 150, 41⟩) (.tup (.cons (.int 0 0 ⟨150, 44, 150, 45⟩) (.cons (.int 0 0 ⟨150, 47, 150, 48⟩) (.cons (.int 1 0 ⟨150, 50, 150, 51⟩) (.cons (.int 1 0 ⟨150, 53, 150, 54⟩) (.cons (.int 0 0 ⟨150, 56, 150, 57⟩) (.cons (.int 0 0 ⟨150, 59, 150, 60⟩) .nil)))))) 0 ⟨150, 43, 150, 61⟩) (.tup (.cons (.int 1 0 ⟨150, 64, 150, 65⟩) (.cons (.int 0 0 ⟨150, 67, 150, 68⟩) (.cons (.int 1 0 ⟨150, 70, 150, 71⟩) (.cons (.int 0 0 ⟨150, 73, 150, 74⟩) (.cons (.int 1 0 ⟨150, 76, 150, 77⟩) (.cons (.neg (.int 1 0 ⟨150, 80, 150, 81⟩) ⟨150, 79, 150, 81⟩) .nil)))))) 0 ⟨150, 63, 150, 82⟩) 0 ⟨150, 22, 150, 83⟩ ⟨150, 4, 150, 83⟩) (.cons (.asg (.nm 8 ⟨151, 4, 151, 8⟩) (.lst (.cons (.call 7 (.cons (.v 5 ⟨151, 21, 151, 25⟩) (.cons (.int 4 0 ⟨151, 27, 151, 28⟩) .nil)) ⟨151, 12, 151, 20⟩ ⟨151, 12, 151, 29⟩) (.cons (.call 7 (.cons (.v 6 ⟨151, 40, 151, 44⟩) (.cons (.int 4 0 ⟨151, 46, 151, 47⟩) .nil)) ⟨151, 31, 151, 39⟩ ⟨151, 31, 151, 48⟩) (.cons (.call 7 (.cons (.v 7 ⟨151, 59, 151, 62⟩) (.cons (.int 4 0 ⟨151, 64, 151, 65⟩) .nil)) ⟨151, 50, 151, 58⟩ ⟨151, 50, 151, 66⟩) (.cons (.call 8 (.cons (.v 5 ⟨151, 76, 151, 80⟩) (.cons (.int 5 0 ⟨151, 82, 151, 83⟩) (.cons (.int 2 0 ⟨151, 85, 151, 86⟩) .nil))) ⟨151, 68, 151, 75⟩ ⟨151, 68, 151, 87⟩) (.cons (.call 9 (.cons (.v 7 ⟨151, 98, 151, 101⟩) (.cons (.int 5 0 ⟨151, 103, 151, 104⟩) .nil)) ⟨151, 89, 151, 97⟩ ⟨151, 89, 151, 105⟩) (.cons (.call 9 (.cons (.v 6 ⟨151, 116, 151, 120⟩) (.cons (.int 5 0 ⟨151, 122, 151, 123⟩) .nil)) ⟨151, 107, 151, 115⟩ ⟨151, 107, 151, 124⟩) .nil)))))) ⟨151, 11, 151, 125⟩) ⟨151, 4, 151, 125⟩) (.cons (.asg (.nm 8 ⟨152, 4, 152, 8⟩) (.bin .Add (.v 8 ⟨152, 11, 152, 15⟩) (.lst (.cons (.call 10 (.cons (.v 5 ⟨152, 31, 152, 35⟩) (.cons (.tup (.cons (.tup (.cons (.int 1 0 ⟨152, 39, 152, 40⟩) .nil) 0 ⟨152, 38, 152, 42⟩) (.cons (.tup (.cons (.int 1 0 ⟨152, 45, 152, 46⟩) (.cons (.int 1 0 ⟨152, 48, 152, 49⟩) .nil)) 0 ⟨152, 44, 152, 50⟩) .nil)) 0 ⟨152, 37, 152, 51⟩) .nil)) ⟨152, 19, 152, 30⟩ ⟨152, 19, 152, 52⟩) (.cons (.call 10 (.cons (.v 6 ⟨152, 66, 152, 70⟩) (.cons (.tup (.cons (.tup (.cons (.int 1 0 ⟨152, 74, 152, 75⟩) .nil) 0 ⟨152, 73, 152, 77⟩) (.cons (.tup (.cons (.int 1 0 ⟨152, 80, 152, 81⟩) (.cons (.int 1 0 ⟨152, 83, 152, 84⟩) .nil)) 0 ⟨152, 79, 152, 85⟩) .nil)) 0 ⟨152, 72, 152, 86⟩) .nil)) ⟨152, 54, 152, 65⟩ ⟨152, 54, 152, 87⟩) (.cons (.call 10 (.cons (.v 6 ⟨152, 101, 152, 105⟩) (.cons (.tup .nil 0 ⟨152, 107, 152, 109⟩) .nil)) ⟨152, 89, 152, 100⟩ ⟨152, 89, 152, 110⟩) .nil))) ⟨152, 18, 152, 111⟩) ⟨152, 11, 152, 111⟩) ⟨152, 4, 152, 111⟩) (.cons (.asg (.nm 9 ⟨153, 4, 153, 7⟩) (.lst (.cons (.tup (.cons (.tup (.cons (.int 1 0 ⟨153, 13, 153, 14⟩) .nil) 0 ⟨153, 12, 153, 16⟩) (.cons (.tup (.cons (.int 1 0 ⟨153, 19, 153, 20⟩) (.cons (.int 1 0 ⟨153, 22, 153, 23⟩) .nil)) 0 ⟨153, 18, 153, 24⟩) (.cons (.tup (.cons (.int 1 0 ⟨153, 27, 153, 28⟩) (.cons (.int 2 0 ⟨153, 30, 153, 31⟩) (.cons (.int 1 0 ⟨153, 33, 153, 34⟩) .nil))) 0 ⟨153, 26, 153, 35⟩) (.cons (.tup (.cons (.int 1 0 ⟨153, 38, 153, 39⟩) (.cons (.int 3 0 ⟨153, 41, 153, 42⟩) (.cons (.int 3 0 ⟨153, 44, 153, 45⟩) (.cons (.int 1 0 ⟨153, 47, 153, 48⟩) .nil)))) 0 ⟨153, 37, 153, 49⟩) .nil)))) 0 ⟨153, 11, 153, 50⟩) (.cons (.tup (.cons (.tup (.cons (.int 1 0 ⟨153, 54, 153, 55⟩) .nil) 0 ⟨153, 53, 153, 57⟩) (.cons (.tup (.cons (.int 0 0 ⟨153, 60, 153, 61⟩) (.cons (.int 1 0 ⟨153, 63, 153, 64⟩) .nil)) 0 ⟨153, 59, 153, 65⟩) (.cons (.tup (.cons (.int 0 0 ⟨153, 68, 153, 69⟩) (.cons (.int 1 0 ⟨153, 71, 153, 72⟩) (.cons (.int 1 0 ⟨153, 74, 153, 75⟩) .nil))) 0 ⟨153, 67, 153, 76⟩) (.cons (.tup (.cons (.int 0 0 ⟨153, 79, 153, 80⟩) (.cons (.int 1 0 ⟨153, 82, 153, 83⟩) (.cons (.int 3 0 ⟨153, 85, 153, 86⟩) (.cons (.int 1 0 ⟨153, 88, 153, 89⟩) .nil)))) 0 ⟨153, 78, 153, 90⟩) .nil)))) 0 ⟨153, 52, 153, 91⟩) .nil)) ⟨153, 10, 153, 92⟩) ⟨153, 4, 153, 92⟩) (.cons (.asg (.nm 9 ⟨154, 4, 154, 7⟩) (.bin .Add (.v 9 ⟨154, 10, 154, 13⟩) (.lst (.cons (.tup (.cons (.tup (.cons (.int 1 0 ⟨154, 19, 154, 20⟩) .nil) 0 ⟨154, 18, 154, 22⟩) (.cons (.tup (.cons (.int 1 0 ⟨154, 25, 154, 26⟩) (.cons (.int 0 0 ⟨154, 28, 154, 29⟩) .nil)) 0 ⟨154, 24, 154, 30⟩) (.cons (.tup (.cons (.int 1 0 ⟨154, 33, 154, 34⟩) (.cons (.int 1 0 ⟨154, 36, 154, 37⟩) (.cons (.int 0 0 ⟨154, 39, 154, 40⟩) .nil))) 0 ⟨154, 32, 154, 41⟩) (.cons (.tup (.cons (.int 1 0 ⟨154, 44, 154, 45⟩) (.cons (.int 4 0 ⟨154, 47, 154, 48⟩) (.cons (.int 1 0 ⟨154, 50, 154, 51⟩) (.cons (.int 0 0 ⟨154, 53, 154, 54⟩) .nil)))) 0 ⟨154, 43, 154, 55⟩) .nil)))) 0 ⟨154, 17, 154, 56⟩) .nil) ⟨154, 16, 154, 57⟩) ⟨154, 10, 154, 57⟩) ⟨154, 4, 154, 57⟩) (.cons (.iff (.not (.call 11 (.cons (.v 8 ⟨155, 21, 155, 25⟩) (.cons (.bin .Add (.v 9 ⟨155, 27, 155, 30⟩) (.lst (.cons (.int 10 0 ⟨155, 34, 155, 36⟩) (.cons (.tup (.cons (.int 1 0 ⟨155, 39, 155, 40⟩) (.cons (.int 1 0 ⟨155, 42, 155, 43⟩) (.cons (.int 2 0 ⟨155, 45, 155, 46⟩) (.cons (.int 6 0 ⟨155, 48, 155, 49⟩) (.cons (.int 24 0 ⟨155, 51, 155, 53⟩) .nil))))) 0 ⟨155, 38, 155, 54⟩) (.cons (.tup (.cons (.int 1 0 ⟨155, 57, 155, 58⟩) (.cons (.int 1 0 ⟨155, 60, 155, 61⟩) (.cons (.int 2 0 ⟨155, 63, 155, 64⟩) (.cons (.int 5 0 ⟨155, 66, 155, 67⟩) (.cons (.int 15 0 ⟨155, 69, 155, 71⟩) .nil))))) 0 ⟨155, 56, 155, 72⟩) (.cons (.bl true 0 ⟨155, 74, 155, 78⟩) (.cons (.bl false 0 ⟨155, 80, 155, 85⟩) (.cons (.bl false 0 ⟨155, 87, 155, 92⟩) .nil)))))) ⟨155, 33, 155, 93⟩) ⟨155, 27, 155, 93⟩) .nil)) ⟨155, 11, 155, 20⟩ ⟨155, 11, 155, 94⟩) ⟨155, 7, 155, 94⟩) (.cons (.ret (.bl false 0 ⟨156, 15, 156, 20⟩) ⟨156, 8, 156, 20⟩) .nil) .nil ⟨155, 4, 156, 20⟩) (.cons (.asg (.nm 8 ⟨157, 4, 157, 8⟩) (.lst (.cons (.call 7 (.cons (.bin .Mult (.tup (.cons (.int 0 0 ⟨157, 22, 157, 23⟩) .nil) 0 ⟨157, 21, 157, 25⟩) (.int 6 0 ⟨157, 28, 157, 29⟩) ⟨157, 21, 157, 29⟩) (.cons (.int 3 0 ⟨157, 31, 157, 32⟩) .nil)) ⟨157, 12, 157, 20⟩ ⟨157, 12, 157, 33⟩) (.cons (.call 8 (.cons (.v 5 ⟨157, 43, 157, 47⟩) (.cons (.int 40 0 ⟨157, 49, 157, 51⟩) (.cons (.int 20 0 ⟨157, 53, 157, 55⟩) .nil))) ⟨157, 35, 157, 42⟩ ⟨157, 35, 157, 56⟩) (.cons (.call 9 (.cons (.bin .Mult (.tup (.cons (.int 10 0 ⟨157, 68, 157, 70⟩) .nil) 0 ⟨157, 67, 157, 72⟩) (.int 6 0 ⟨157, 75, 157, 76⟩) ⟨157, 67, 157, 76⟩) (.cons (.int 3 0 ⟨157, 78, 157, 79⟩) .nil)) ⟨157, 58, 157, 66⟩ ⟨157, 58, 157, 80⟩) .nil))) ⟨157, 11, 157, 81⟩) ⟨157, 4, 157, 81⟩) (.cons (.iff (.not (.call 11 (.cons (.v 8 ⟨158, 21, 158, 25⟩) (.cons (.lst (.cons (.tup (.cons (.tup (.cons (.int 1 0 ⟨158, 30, 158, 31⟩) .nil) 0 ⟨158, 29, 158, 33⟩) (.cons (.tup (.cons (.int 0 0 ⟨158, 36, 158, 37⟩) (.cons (.int 0 0 ⟨158, 39, 158, 40⟩) .nil)) 0 ⟨158, 35, 158, 41⟩) (.cons (.tup (.cons (.int 0 0 ⟨158, 44, 158, 45⟩) (.cons (.int 0 0 ⟨158, 47, 158, 48⟩) (.cons (.int 0 0 ⟨158, 50, 158, 51⟩) .nil))) 0 ⟨158, 43, 158, 52⟩) .nil))) 0 ⟨158, 28, 158, 53⟩) (.cons (.int 137846528820 0 ⟨158, 55, 158, 67⟩) (.cons (.tup (.cons (.int 1 0 ⟨158, 70, 158, 71⟩) (.cons (.int 50 0 ⟨158, 73, 158, 75⟩) (.cons (.int 4100 0 ⟨158, 77, 158, 81⟩) .nil))) 0 ⟨158, 69, 158, 82⟩) .nil))) ⟨158, 27, 158, 83⟩) .nil)) ⟨158, 11, 158, 20⟩ ⟨158, 11, 158, 84⟩) ⟨158, 7, 158, 84⟩) (.cons (.ret (.bl false 0 ⟨159, 15, 159, 20⟩) ⟨159, 8, 159, 20⟩) .nil) .nil ⟨158, 4, 159, 20⟩) (.cons (.fr (.nm 4 ⟨160, 8, 160, 12⟩) (.seq (.tup (.cons (.v 5 ⟨160, 17, 160, 21⟩) (.cons (.v 6 ⟨160, 23, 160, 27⟩) (.cons (.v 7 ⟨160, 29, 160, 32⟩) (.cons (.bin .Mult (.tup (.cons (.int 0 0 ⟨160, 35, 160, 36⟩) .nil) 0 ⟨160, 34, 160, 38⟩) (.int 6 0 ⟨160, 41, 160, 42⟩) ⟨160, 34, 160, 42⟩) (.cons (.bin .Mult (.tup (.cons (.int 10 0 ⟨160, 45, 160, 47⟩) .nil) 0 ⟨160, 44, 160, 49⟩) (.int 6 0 ⟨160, 52, 160, 53⟩) ⟨160, 44, 160, 53⟩) (.cons (.bin .Mult (.tup (.cons (.neg (.int 10 0 ⟨160, 57, 160, 59⟩) ⟨160, 56, 160, 59⟩) .nil) 0 ⟨160, 55, 160, 61⟩) (.int 6 0 ⟨160, 64, 160, 65⟩) ⟨160, 55, 160, 65⟩) (.cons (.tup (.cons (.neg (.int 1 0 ⟨160, 69, 160, 70⟩) ⟨160, 68, 160, 70⟩) (.cons (.int 1 0 ⟨160, 72, 160, 73⟩) (.cons (.int 0 0 ⟨160, 75, 160, 76⟩) (.cons (.int 1 0 ⟨160, 78, 160, 79⟩) (.cons (.int 0 0 ⟨160, 81, 160, 82⟩) (.cons (.int 0 0 ⟨160, 84, 160, 85⟩) .nil)))))) 0 ⟨160, 67, 160, 86⟩) (.cons (.tup (.cons (.int 0 0 ⟨160, 89, 160, 90⟩) (.cons (.int 0 0 ⟨160, 92, 160, 93⟩) (.cons (.int 0 0 ⟨160, 95, 160, 96⟩) (.cons (.int 1 0 ⟨160, 98, 160, 99⟩) (.cons (.int 0 0 ⟨160, 101, 160, 102⟩) (.cons (.int 0 0 ⟨160, 104, 160, 105⟩) .nil)))))) 0 ⟨160, 88, 160, 106⟩) .nil)))))))) 0 ⟨160, 16, 160, 107⟩)) b_law_b1 ⟨160, 4, 162, 24⟩) (.cons (.ret (.call 12 .nil ⟨163, 11, 163, 22⟩ ⟨163, 11, 163, 24⟩) ⟨163, 4, 163, 24⟩) .nil))))))))))))
def d_law : Dd := { name := (Str.ofString "law"), params := defArgs (top 31), scope := defScope (top 31), names := [(Str.ofString "script"), (Str.ofString "cup"), (Str.ofString "turn"), (Str.ofString "wide"), (Str.ofString "rule"), (Str.ofString "ways"), (Str.ofString "sets"), (Str.ofString "ups"), (Str.ofString "told"), (Str.ofString "due"), (Str.ofString "part")], np := 1, body := b_law, vis := [0, 1, 2, 3, 4, 5, 6, 7, 8, 9], gls := [1, 2, 3, 4, 5, 6, 7, 8, 9, 10, 11, 12], w := [0, 1, 2, 3, 4, 5, 6, 7, 8, 9], tr := false, lams := false }
def b__law_cup : Ss := (.cons (.asg (.nm 1 ⟨62, 4, 62, 8⟩) (.blt .abs 13 (.cons (.ix (.bin .Add (.blt .list 14 (.cons (.v 0 ⟨62, 21, 62, 27⟩) .nil) ⟨62, 16, 62, 20⟩ ⟨62, 16, 62, 28⟩) (.lst (.cons (.int 0 0 ⟨62, 32, 62, 33⟩) .nil) ⟨62, 31, 62, 34⟩) ⟨62, 16, 62, 34⟩) (.int 0 0 ⟨62, 36, 62, 37⟩) ⟨62, 15, 62, 38⟩) .nil) ⟨62, 11, 62, 14⟩ ⟨62, 11, 62, 39⟩) ⟨62, 4, 62, 39⟩) (.cons (.ret (.ncup (.ife (.cmp .GtE (.v 1 ⟨63, 27, 63, 31⟩) (.bin .Pow (.int 10 0 ⟨63, 35, 63, 37⟩) (.int 18 0 ⟨63, 41, 63, 43⟩) ⟨63, 35, 63, 43⟩) ⟨63, 27, 63, 43⟩) (.bin .FloorDiv (.v 1 ⟨63, 12, 63, 16⟩) (.int 193 0 ⟨63, 20, 63, 23⟩) ⟨63, 12, 63, 23⟩) (.int 0 0 ⟨63, 49, 63, 50⟩) ⟨63, 12, 63, 50⟩) (.bin .Add (.bin .Mod (.blt .int 15 (.cons (.bin .Add (.bin .Mult (.v 1 ⟨63, 56, 63, 60⟩) (.int 449 0 ⟨63, 63, 63, 66⟩) ⟨63, 56, 63, 66⟩) (.int 6733 0 ⟨63, 69, 63, 73⟩) ⟨63, 56, 63, 73⟩) .nil) ⟨63, 52, 63, 55⟩ ⟨63, 52, 63, 74⟩) (.int 99971 0 ⟨63, 77, 63, 82⟩) ⟨63, 52, 63, 82⟩) (.int 307 0 ⟨63, 85, 63, 88⟩) ⟨63, 52, 63, 88⟩) ⟨63, 11, 63, 89⟩) ⟨63, 4, 63, 89⟩) .nil))
def d__law_cup : Dd := { name := (Str.ofString "_law_cup"), params := defArgs (top 22), scope := defScope (top 22), names := [(Str.ofString "script"), (Str.ofString "cell")], np := 1, body := b__law_cup, vis := [0, 1], gls := [13, 14, 15], w := [0, 1], tr := false, lams := false }
def b__law_some : Ss := (.cons (.ret (.ix (.v 1 ⟨72, 11, 72, 17⟩) (.call 5 (.cons (.v 0 ⟨72, 28, 72, 31⟩) (.cons (.blt .len 16 (.cons (.v 1 ⟨72, 37, 72, 43⟩) .nil) ⟨72, 33, 72, 36⟩ ⟨72, 33, 72, 44⟩) .nil)) ⟨72, 18, 72, 27⟩ ⟨72, 18, 72, 45⟩) ⟨72, 11, 72, 46⟩) ⟨72, 4, 72, 46⟩) .nil)
def d__law_some : Dd := { name := (Str.ofString "_law_some"), params := defArgs (top 24), scope := defScope (top 24), names := [(Str.ofString "cup"), (Str.ofString "things")], np := 2, body := b__law_some, vis := [0, 1], gls := [5, 16], w := [0, 1], tr := false, lams := false }
def b__law_roll : Ss := (.cons (.iff (.cmp .Gt (.ix (.v 0 ⟨65, 7, 65, 10⟩) (.int 0 0 ⟨65, 11, 65, 12⟩) ⟨65, 7, 65, 13⟩) (.int 0 0 ⟨65, 16, 65, 17⟩) ⟨65, 7, 65, 17⟩) (.cons (.asg (.nm 2 ⟨66, 8, 66, 13⟩) (.bin .Mod (.blt .int 15 (.cons (.ix (.v 0 ⟨66, 20, 66, 23⟩) (.int 0 0 ⟨66, 24, 66, 25⟩) ⟨66, 20, 66, 26⟩) .nil) ⟨66, 16, 66, 19⟩ ⟨66, 16, 66, 27⟩) (.v 1 ⟨66, 30, 66, 34⟩) ⟨66, 16, 66, 34⟩) ⟨66, 8, 66, 34⟩) (.cons (.setC 0 ⟨67, 8, 67, 11⟩ (.int 0 0 ⟨67, 12, 67, 13⟩) ⟨67, 8, 67, 14⟩ (.bin .FloorDiv (.ix (.v 0 ⟨67, 17, 67, 20⟩) (.int 0 0 ⟨67, 21, 67, 22⟩) ⟨67, 17, 67, 23⟩) (.v 1 ⟨67, 27, 67, 31⟩) ⟨67, 17, 67, 31⟩) ⟨67, 8, 67, 31⟩) (.cons (.ret (.v 2 ⟨68, 15, 68, 20⟩) ⟨68, 8, 68, 20⟩) .nil))) .nil ⟨65, 4, 68, 20⟩) (.cons (.setC 0 ⟨69, 4, 69, 7⟩ (.int 1 0 ⟨69, 8, 69, 9⟩) ⟨69, 4, 69, 10⟩ (.bin .Mod (.blt .int 15 (.cons (.bin .Add (.bin .Mult (.ix (.v 0 ⟨69, 17, 69, 20⟩) (.int 1 0 ⟨69, 21, 69, 22⟩) ⟨69, 17, 69, 23⟩) (.int 83 0 ⟨69, 26, 69, 28⟩) ⟨69, 17, 69, 28⟩) (.int 1427 0 ⟨69, 31, 69, 35⟩) ⟨69, 17, 69, 35⟩) .nil) ⟨69, 13, 69, 16⟩ ⟨69, 13, 69, 36⟩) (.int 99971 0 ⟨69, 39, 69, 44⟩) ⟨69, 13, 69, 44⟩) ⟨69, 4, 69, 44⟩) (.cons (.ret (.bin .Mod (.blt .int 15 (.cons (.bin .FloorDiv (.ix (.v 0 ⟨70, 15, 70, 18⟩) (.int 1 0 ⟨70, 19, 70, 20⟩) ⟨70, 15, 70, 21⟩) (.int 11 0 ⟨70, 25, 70, 27⟩) ⟨70, 15, 70, 27⟩) .nil) ⟨70, 11, 70, 14⟩ ⟨70, 11, 70, 28⟩) (.v 1 ⟨70, 31, 70, 35⟩) ⟨70, 11, 70, 35⟩) ⟨70, 4, 70, 35⟩) .nil)))
def d__law_roll : Dd := { name := (Str.ofString "_law_roll"), params := defArgs (top 23), scope := defScope (top 23), names := [(Str.ofString "cup"), (Str.ofString "many"), (Str.ofString "found")], np := 2, body := b__law_roll, vis := [0, 1, 2], gls := [15], w := [0, 1, 2], tr := false, lams := false }
def b__law_right_e0 : E := .blt .sum 18 (.cons (.v 18 ⟨106, 92, 106, 95⟩) .nil) ⟨106, 88, 106, 91⟩ ⟨106, 88, 106, 96⟩
def b__law_right_b0 : Ss := (.cons (.iff (.cmp .NotEq (.blt .sum 18 (.cons (.ix (.v 3 ⟨115, 19, 115, 23⟩) (.v 12 ⟨115, 24, 115, 26⟩) ⟨115, 19, 115, 27⟩) .nil) ⟨115, 15, 115, 18⟩ ⟨115, 15, 115, 28⟩) (.bin .Mult (.bin .Add (.bin .Add (.bin .Add (.v 6 ⟨115, 33, 115, 34⟩) (.v 9 ⟨115, 37, 115, 38⟩) ⟨115, 33, 115, 38⟩) (.v 11 ⟨115, 41, 115, 42⟩) ⟨115, 33, 115, 42⟩) (.bin .Mult (.bin .Add (.v 7 ⟨115, 46, 115, 47⟩) (.v 10 ⟨115, 50, 115, 51⟩) ⟨115, 46, 115, 51⟩) (.v 12 ⟨115, 55, 115, 57⟩) ⟨115, 45, 115, 57⟩) ⟨115, 33, 115, 57⟩) (.blt .sum 18 (.cons (.ix (.v 3 ⟨115, 65, 115, 69⟩) (.bin .Sub (.v 12 ⟨115, 70, 115, 72⟩) (.int 1 0 ⟨115, 75, 115, 76⟩) ⟨115, 70, 115, 76⟩) ⟨115, 65, 115, 77⟩) .nil) ⟨115, 61, 115, 64⟩ ⟨115, 61, 115, 78⟩) ⟨115, 32, 115, 78⟩) ⟨115, 15, 115, 78⟩) (.cons (.ret (.bl false 0 ⟨116, 23, 116, 28⟩) ⟨116, 16, 116, 28⟩) .nil) .nil ⟨115, 12, 116, 28⟩) .nil)
def b__law_right_b1 : Ss := (.cons (.app 14 ⟨121, 8, 121, 14⟩ ⟨121, 8, 121, 21⟩ ⟨121, 8, 121, 90⟩ (.bin .Add (.bin .Add (.sl (.v 13 ⟨121, 22, 121, 26⟩) .no (.so (.v 4 ⟨121, 28, 121, 29⟩)) ⟨121, 27, 121, 29⟩ ⟨121, 22, 121, 30⟩) (.tup (.cons (.bin .Add (.bin .Add (.sl (.ix (.v 3 ⟨121, 34, 121, 38⟩) (.v 4 ⟨121, 39, 121, 40⟩) ⟨121, 34, 121, 41⟩) .no (.so (.v 5 ⟨121, 43, 121, 44⟩)) ⟨121, 42, 121, 44⟩ ⟨121, 34, 121, 45⟩) (.tup (.cons (.v 15 ⟨121, 49, 121, 52⟩) .nil) 0 ⟨121, 48, 121, 54⟩) ⟨121, 34, 121, 54⟩) (.sl (.ix (.v 3 ⟨121, 57, 121, 61⟩) (.v 4 ⟨121, 62, 121, 63⟩) ⟨121, 57, 121, 64⟩) (.so (.bin .Add (.v 5 ⟨121, 65, 121, 66⟩) (.int 1 0 ⟨121, 69, 121, 70⟩) ⟨121, 65, 121, 70⟩)) .no ⟨121, 65, 121, 71⟩ ⟨121, 57, 121, 72⟩) ⟨121, 34, 121, 72⟩) .nil) 0 ⟨121, 33, 121, 74⟩) ⟨121, 22, 121, 74⟩) (.sl (.v 13 ⟨121, 77, 121, 81⟩) (.so (.bin .Add (.v 4 ⟨121, 82, 121, 83⟩) (.int 1 0 ⟨121, 86, 121, 87⟩) ⟨121, 82, 121, 87⟩)) .no ⟨121, 82, 121, 88⟩ ⟨121, 77, 121, 89⟩) ⟨121, 22, 121, 89⟩) ⟨121, 8, 121, 90⟩) .nil)
def b__law_right_b2 : Ss := (.cons (.asg (.nm 17 ⟨123, 8, 123, 12⟩) (.bop .And (.cons (.isi 19 (.v 16 ⟨123, 26, 123, 31⟩) 20 ⟨123, 15, 123, 25⟩ ⟨123, 33, 123, 38⟩ ⟨123, 15, 123, 39⟩) (.cons (.cmp2 .LtE .LtE (.int 1 0 ⟨123, 44, 123, 45⟩) (.blt .len 16 (.cons (.v 16 ⟨123, 53, 123, 58⟩) .nil) ⟨123, 49, 123, 52⟩ ⟨123, 49, 123, 59⟩) (.v 2 ⟨123, 63, 123, 67⟩) ⟨123, 44, 123, 67⟩) (.cons (.call 11 (.cons (.v 16 ⟨123, 82, 123, 87⟩) (.cons (.sl (.v 13 ⟨123, 89, 123, 93⟩) .no (.so (.blt .len 16 (.cons (.v 16 ⟨123, 99, 123, 104⟩) .nil) ⟨123, 95, 123, 98⟩ ⟨123, 95, 123, 105⟩)) ⟨123, 94, 123, 105⟩ ⟨123, 89, 123, 106⟩) .nil)) ⟨123, 72, 123, 81⟩ ⟨123, 72, 123, 107⟩) .nil))) ⟨123, 15, 123, 107⟩) ⟨123, 8, 123, 107⟩) (.cons (.iff (.not (.call 11 (.cons (.call 10 (.cons (.v 1 ⟨124, 37, 124, 41⟩) (.cons (.v 16 ⟨124, 43, 124, 48⟩) .nil)) ⟨124, 25, 124, 36⟩ ⟨124, 25, 124, 49⟩) (.cons (.v 17 ⟨124, 51, 124, 55⟩) .nil)) ⟨124, 15, 124, 24⟩ ⟨124, 15, 124, 56⟩) ⟨124, 11, 124, 56⟩) (.cons (.ret (.bl false 0 ⟨125, 19, 125, 24⟩) ⟨125, 12, 125, 24⟩) .nil) .nil ⟨124, 8, 125, 24⟩) .nil))
def b__law_right : Ss := (.cons (.asg (.nm 3 ⟨105, 4, 105, 8⟩) (.call 17 (.cons (.v 1 ⟨105, 21, 105, 25⟩) (.cons (.v 2 ⟨105, 27, 105, 31⟩) .nil)) ⟨105, 11, 105, 20⟩ ⟨105, 11, 105, 32⟩) ⟨105, 4, 105, 32⟩) (.cons (.iff (.not (.call 11 (.cons (.lst (.cons (.call 7 (.cons (.v 1 ⟨106, 31, 106, 35⟩) (.cons (.v 2 ⟨106, 37, 106, 41⟩) .nil)) ⟨106, 22, 106, 30⟩ ⟨106, 22, 106, 42⟩) (.cons (.call 9 (.cons (.v 1 ⟨106, 53, 106, 57⟩) (.cons (.v 2 ⟨106, 59, 106, 63⟩) .nil)) ⟨106, 44, 106, 52⟩ ⟨106, 44, 106, 64⟩) .nil)) ⟨106, 21, 106, 65⟩) (.cons (.lst (.cons (.blt .tuple 4 (.cons (.v 3 ⟨106, 74, 106, 78⟩) .nil) ⟨106, 68, 106, 73⟩ ⟨106, 68, 106, 79⟩) (.cons (.blt .tuple 4 (.cons (.lc (b__law_right_e0) (.nm 18 ⟨106, 101, 106, 104⟩) (.seq (.v 3 ⟨106, 108, 106, 112⟩)) .nil { kind := .function, names := [((Str.ofString ".0"), .«local»), ((Str.ofString "row"), .«local»), ((Str.ofString "sum"), .globalImplicit)], isGenerator := false, isCoroutine := false, more := [] } [18] [18] [18] ⟨106, 87, 106, 113⟩) .nil) ⟨106, 81, 106, 86⟩ ⟨106, 81, 106, 114⟩) .nil)) ⟨106, 67, 106, 115⟩) .nil)) ⟨106, 11, 106, 20⟩ ⟨106, 11, 106, 116⟩) ⟨106, 7, 106, 116⟩) (.cons (.ret (.bl false 0 ⟨107, 15, 107, 20⟩) ⟨107, 8, 107, 20⟩) .nil) .nil ⟨106, 4, 107, 20⟩) (.cons (.asg (.nm 4 ⟨108, 4, 108, 5⟩) (.call 5 (.cons (.v 0 ⟨108, 18, 108, 21⟩) (.cons (.v 2 ⟨108, 23, 108, 27⟩) .nil)) ⟨108, 8, 108, 17⟩ ⟨108, 8, 108, 28⟩) ⟨108, 4, 108, 28⟩) (.cons (.asg (.nm 5 ⟨109, 4, 109, 5⟩) (.call 5 (.cons (.v 0 ⟨109, 18, 109, 21⟩) (.cons (.bin .Add (.v 4 ⟨109, 23, 109, 24⟩) (.int 1 0 ⟨109, 27, 109, 28⟩) ⟨109, 23, 109, 28⟩) .nil)) ⟨109, 8, 109, 17⟩ ⟨109, 8, 109, 29⟩) ⟨109, 4, 109, 29⟩) (.cons (.iff (.not (.call 11 (.cons (.lst (.cons (.call 8 (.cons (.v 1 ⟨110, 30, 110, 34⟩) (.cons (.v 4 ⟨110, 36, 110, 37⟩) (.cons (.v 5 ⟨110, 39, 110, 40⟩) .nil))) ⟨110, 22, 110, 29⟩ ⟨110, 22, 110, 41⟩) (.cons (.call 8 (.cons (.v 1 ⟨110, 51, 110, 55⟩) (.cons (.v 4 ⟨110, 57, 110, 58⟩) (.cons (.int 0 0 ⟨110, 60, 110, 61⟩) .nil))) ⟨110, 43, 110, 50⟩ ⟨110, 43, 110, 62⟩) (.cons (.call 8 (.cons (.v 1 ⟨110, 72, 110, 76⟩) (.cons (.v 4 ⟨110, 78, 110, 79⟩) (.cons (.v 4 ⟨110, 81, 110, 82⟩) .nil))) ⟨110, 64, 110, 71⟩ ⟨110, 64, 110, 83⟩) .nil))) ⟨110, 21, 110, 84⟩) (.cons (.lst (.cons (.ix (.ix (.v 3 ⟨110, 87, 110, 91⟩) (.v 4 ⟨110, 92, 110, 93⟩) ⟨110, 87, 110, 94⟩) (.v 5 ⟨110, 95, 110, 96⟩) ⟨110, 87, 110, 97⟩) (.cons (.ix (.ix (.v 3 ⟨110, 99, 110, 103⟩) (.v 4 ⟨110, 104, 110, 105⟩) ⟨110, 99, 110, 106⟩) (.int 0 0 ⟨110, 107, 110, 108⟩) ⟨110, 99, 110, 109⟩) (.cons (.ix (.ix (.v 3 ⟨110, 111, 110, 115⟩) (.v 4 ⟨110, 116, 110, 117⟩) ⟨110, 111, 110, 118⟩) (.v 4 ⟨110, 119, 110, 120⟩) ⟨110, 111, 110, 121⟩) .nil))) ⟨110, 86, 110, 122⟩) .nil)) ⟨110, 11, 110, 20⟩ ⟨110, 11, 110, 123⟩) ⟨110, 7, 110, 123⟩) (.cons (.ret (.bl false 0 ⟨111, 15, 111, 20⟩) ⟨111, 8, 111, 20⟩) .nil) .nil ⟨110, 4, 111, 20⟩) (.cons (.asg (.tp (.cons (.nm 6 ⟨112, 4, 112, 5⟩) (.cons (.nm 7 ⟨112, 7, 112, 8⟩) (.cons (.nm 8 ⟨112, 10, 112, 11⟩) (.cons (.nm 9 ⟨112, 13, 112, 14⟩) (.cons (.nm 10 ⟨112, 16, 112, 17⟩) (.cons (.nm 11 ⟨112, 19, 112, 20⟩) .nil)))))) 0 ⟨112, 4, 112, 20⟩) (.v 1 ⟨112, 23, 112, 27⟩) ⟨112, 4, 112, 27⟩) (.cons (.iff (.cmp .Eq (.bin .Add (.v 8 ⟨113, 7, 113, 8⟩) (.v 11 ⟨113, 11, 113, 12⟩) ⟨113, 7, 113, 12⟩) (.int 0 0 ⟨113, 16, 113, 17⟩) ⟨113, 7, 113, 17⟩) (.cons (.fr (.nm 12 ⟨114, 12, 114, 14⟩) (.rg2 2 (.int 1 0 ⟨114, 24, 114, 25⟩) (.v 2 ⟨114, 27, 114, 31⟩) ⟨114, 18, 114, 23⟩ ⟨114, 18, 114, 32⟩) b__law_right_b0 ⟨114, 8, 116, 28⟩) .nil) .nil ⟨113, 4, 116, 28⟩) (.cons (.asg (.nm 13 ⟨117, 4, 117, 8⟩) (.blt .tuple 4 (.cons (.v 3 ⟨117, 17, 117, 21⟩) .nil) ⟨117, 11, 117, 16⟩ ⟨117, 11, 117, 22⟩) ⟨117, 4, 117, 22⟩) (.cons (.asgO 14 ⟨118, 4, 118, 10⟩ (.lst (.cons (.v 13 ⟨118, 14, 118, 18⟩) (.cons (.sl (.v 13 ⟨118, 20, 118, 24⟩) .no (.so (.neg (.int 1 0 ⟨118, 27, 118, 28⟩) ⟨118, 26, 118, 28⟩)) ⟨118, 25, 118, 28⟩ ⟨118, 20, 118, 29⟩) (.cons (.sl (.v 13 ⟨118, 31, 118, 35⟩) (.so (.int 1 0 ⟨118, 36, 118, 37⟩)) .no ⟨118, 36, 118, 38⟩ ⟨118, 31, 118, 39⟩) (.cons (.sl (.v 13 ⟨118, 41, 118, 45⟩) .no (.so (.int 1 0 ⟨118, 47, 118, 48⟩)) ⟨118, 46, 118, 48⟩ ⟨118, 41, 118, 49⟩) (.cons (.blt .list 14 (.cons (.v 13 ⟨118, 56, 118, 60⟩) .nil) ⟨118, 51, 118, 55⟩ ⟨118, 51, 118, 61⟩) (.cons (.bin .Add (.v 13 ⟨118, 63, 118, 67⟩) (.tup (.cons (.tup (.cons (.int 0 0 ⟨118, 72, 118, 73⟩) .nil) 0 ⟨118, 71, 118, 75⟩) .nil) 0 ⟨118, 70, 118, 77⟩) ⟨118, 63, 118, 77⟩) .nil)))))) ⟨118, 13, 118, 78⟩) ⟨118, 4, 118, 78⟩) (.cons (.fz 14) (.cons (.asgO 14 ⟨119, 4, 119, 10⟩ (.bin .Add (.v 14 ⟨119, 13, 119, 19⟩) (.lst (.cons (.non 0 ⟨119, 23, 119, 27⟩) (.cons (.tup .nil 0 ⟨119, 29, 119, 31⟩) (.cons (.int 0 0 ⟨119, 33, 119, 34⟩) (.cons (.bin .Add (.sl (.v 13 ⟨119, 36, 119, 40⟩) .no (.so (.neg (.int 1 0 ⟨119, 43, 119, 44⟩) ⟨119, 42, 119, 44⟩)) ⟨119, 41, 119, 44⟩ ⟨119, 36, 119, 45⟩) (.tup (.cons (.blt .list 14 (.cons (.ix (.v 13 ⟨119, 54, 119, 58⟩) (.neg (.int 1 0 ⟨119, 60, 119, 61⟩) ⟨119, 59, 119, 61⟩) ⟨119, 54, 119, 62⟩) .nil) ⟨119, 49, 119, 53⟩ ⟨119, 49, 119, 63⟩) .nil) 0 ⟨119, 48, 119, 65⟩) ⟨119, 36, 119, 65⟩) (.cons (.bin .Add (.sl (.v 13 ⟨119, 67, 119, 71⟩) .no (.so (.neg (.int 1 0 ⟨119, 74, 119, 75⟩) ⟨119, 73, 119, 75⟩)) ⟨119, 72, 119, 75⟩ ⟨119, 67, 119, 76⟩) (.tup (.cons (.sl (.ix (.v 13 ⟨119, 80, 119, 84⟩) (.neg (.int 1 0 ⟨119, 86, 119, 87⟩) ⟨119, 85, 119, 87⟩) ⟨119, 80, 119, 88⟩) (.so (.int 1 0 ⟨119, 89, 119, 90⟩)) .no ⟨119, 89, 119, 91⟩ ⟨119, 80, 119, 92⟩) .nil) 0 ⟨119, 79, 119, 94⟩) ⟨119, 67, 119, 94⟩) .nil))))) ⟨119, 22, 119, 95⟩) ⟨119, 13, 119, 95⟩) ⟨119, 4, 119, 95⟩) (.cons (.fr (.nm 15 ⟨120, 8, 120, 11⟩) (.seq (.tup (.cons (.non 0 ⟨120, 16, 120, 20⟩) (.cons (.bl true 0 ⟨120, 22, 120, 26⟩) (.cons (.str (Str.ofString "1") 0 ⟨120, 28, 120, 31⟩) (.cons (.bin .Add (.ix (.ix (.v 3 ⟨120, 33, 120, 37⟩) (.v 4 ⟨120, 38, 120, 39⟩) ⟨120, 33, 120, 40⟩) (.v 5 ⟨120, 41, 120, 42⟩) ⟨120, 33, 120, 43⟩) (.int 1 0 ⟨120, 46, 120, 47⟩) ⟨120, 33, 120, 47⟩) (.cons (.ix (.ix (.v 3 ⟨120, 49, 120, 53⟩) (.v 4 ⟨120, 54, 120, 55⟩) ⟨120, 49, 120, 56⟩) (.v 5 ⟨120, 57, 120, 58⟩) ⟨120, 49, 120, 59⟩) (.cons (.neg (.ix (.ix (.v 3 ⟨120, 62, 120, 66⟩) (.v 4 ⟨120, 67, 120, 68⟩) ⟨120, 62, 120, 69⟩) (.v 5 ⟨120, 70, 120, 71⟩) ⟨120, 62, 120, 72⟩) ⟨120, 61, 120, 72⟩) .nil)))))) 0 ⟨120, 15, 120, 73⟩)) b__law_right_b1 ⟨120, 4, 121, 90⟩) (.cons (.fz 14) (.cons (.fr (.nm 16 ⟨122, 8, 122, 13⟩) (.seq (.v 14 ⟨122, 17, 122, 23⟩)) b__law_right_b2 ⟨122, 4, 125, 24⟩) (.cons (.ret (.bl true 0 ⟨126, 11, 126, 15⟩) ⟨126, 4, 126, 15⟩) .nil)))))))))))))))
def d__law_right : Dd := { name := (Str.ofString "_law_right"), params := defArgs (top 29), scope := defScope (top 29), names := [(Str.ofString "cup"), (Str.ofString "rule"), (Str.ofString "many"), (Str.ofString "rows"), (Str.ofString "n"), (Str.ofString "k"), (Str.ofString "a"), (Str.ofString "b"), (Str.ofString "c"), (Str.ofString "d"), (Str.ofString "e"), (Str.ofString "f"), (Str.ofString "at"), (Str.ofString "told"), (Str.ofString "values"), (Str.ofString "odd"), (Str.ofString "value"), (Str.ofString "good"), (Str.ofString "row")], np := 3, body := b__law_right, vis := [0, 1, 2, 3, 4, 5, 6, 7, 8, 9, 10, 11, 12, 13, 14, 15, 16, 17], gls := [2, 4, 5, 7, 8, 9, 10, 11, 14, 16, 17, 18, 19, 20], w := [0, 1, 2, 3, 4, 5, 6, 7, 8, 9, 10, 11, 12, 13, 14, 15, 16, 17], tr := false, lams := false }
def b_triangle : Ss := (.cons (.expr (.call 21 (.cons (.v 0 ⟨44, 14, 44, 18⟩) .nil) ⟨44, 4, 44, 13⟩ ⟨44, 4, 44, 19⟩) ⟨44, 4, 44, 19⟩) (.cons (.expr (.call 22 (.cons (.v 1 ⟨45, 15, 45, 19⟩) (.cons (.int 1 0 ⟨45, 21, 45, 22⟩) (.cons (.gl 23 (.int 30) ⟨45, 24, 45, 28⟩) .nil))) ⟨45, 4, 45, 14⟩ ⟨45, 4, 45, 29⟩) ⟨45, 4, 45, 29⟩) (.cons (.ret (.blt .tuple 4 (.cons (.call 24 (.cons (.v 0 ⟨46, 25, 46, 29⟩) (.cons (.v 1 ⟨46, 31, 46, 35⟩) .nil)) ⟨46, 17, 46, 24⟩ ⟨46, 17, 46, 36⟩) .nil) ⟨46, 11, 46, 16⟩ ⟨46, 11, 46, 37⟩) ⟨46, 4, 46, 37⟩) .nil)))
def d_triangle : Dd := { name := (Str.ofString "triangle"), params := defArgs (top 17), scope := defScope (top 17), names := [(Str.ofString "rule"), (Str.ofString "many")], np := 2, body := b_triangle, vis := [0, 1], gls := [4, 21, 22, 23, 24], w := [0, 1], tr := false, lams := false }
def b_part_at : Ss := (.cons (.expr (.call 21 (.cons (.v 0 ⟨39, 14, 39, 18⟩) .nil) ⟨39, 4, 39, 13⟩ ⟨39, 4, 39, 19⟩) ⟨39, 4, 39, 19⟩) (.cons (.expr (.call 22 (.cons (.v 1 ⟨40, 15, 40, 16⟩) (.cons (.int 0 0 ⟨40, 18, 40, 19⟩) (.cons (.gl 25 (.int 40) ⟨40, 21, 40, 25⟩) .nil))) ⟨40, 4, 40, 14⟩ ⟨40, 4, 40, 26⟩) ⟨40, 4, 40, 26⟩) (.cons (.expr (.call 22 (.cons (.v 2 ⟨41, 15, 41, 16⟩) (.cons (.int 0 0 ⟨41, 18, 41, 19⟩) (.cons (.v 1 ⟨41, 21, 41, 22⟩) .nil))) ⟨41, 4, 41, 14⟩ ⟨41, 4, 41, 23⟩) ⟨41, 4, 41, 23⟩) (.cons (.ret (.ix (.ix (.call 24 (.cons (.v 0 ⟨42, 19, 42, 23⟩) (.cons (.bin .Add (.v 1 ⟨42, 25, 42, 26⟩) (.int 1 0 ⟨42, 29, 42, 30⟩) ⟨42, 25, 42, 30⟩) .nil)) ⟨42, 11, 42, 18⟩ ⟨42, 11, 42, 31⟩) (.v 1 ⟨42, 32, 42, 33⟩) ⟨42, 11, 42, 34⟩) (.v 2 ⟨42, 35, 42, 36⟩) ⟨42, 11, 42, 37⟩) ⟨42, 4, 42, 37⟩) .nil))))
def d_part_at : Dd := { name := (Str.ofString "part_at"), params := defArgs (top 16), scope := defScope (top 16), names := [(Str.ofString "rule"), (Str.ofString "n"), (Str.ofString "k")], np := 3, body := b_part_at, vis := [0, 1, 2], gls := [21, 22, 24, 25], w := [0, 1, 2], tr := false, lams := false }
def b_row_sums_e0 : E := .blt .sum 18 (.cons (.v 2 ⟨50, 22, 50, 25⟩) .nil) ⟨50, 18, 50, 21⟩ ⟨50, 18, 50, 26⟩
def b_row_sums : Ss := (.cons (.expr (.call 21 (.cons (.v 0 ⟨48, 14, 48, 18⟩) .nil) ⟨48, 4, 48, 13⟩ ⟨48, 4, 48, 19⟩) ⟨48, 4, 48, 19⟩) (.cons (.expr (.call 22 (.cons (.v 1 ⟨49, 15, 49, 19⟩) (.cons (.int 1 0 ⟨49, 21, 49, 22⟩) (.cons (.gl 23 (.int 30) ⟨49, 24, 49, 28⟩) .nil))) ⟨49, 4, 49, 14⟩ ⟨49, 4, 49, 29⟩) ⟨49, 4, 49, 29⟩) (.cons (.ret (.blt .tuple 4 (.cons (.lc (b_row_sums_e0) (.nm 2 ⟨50, 31, 50, 34⟩) (.seq (.call 24 (.cons (.v 0 ⟨50, 46, 50, 50⟩) (.cons (.v 1 ⟨50, 52, 50, 56⟩) .nil)) ⟨50, 38, 50, 45⟩ ⟨50, 38, 50, 57⟩)) .nil { kind := .function, names := [((Str.ofString ".0"), .«local»), ((Str.ofString "row"), .«local»), ((Str.ofString "sum"), .globalImplicit)], isGenerator := false, isCoroutine := false, more := [] } [2] [2] [18] ⟨50, 17, 50, 58⟩) .nil) ⟨50, 11, 50, 16⟩ ⟨50, 11, 50, 59⟩) ⟨50, 4, 50, 59⟩) .nil)))
def d_row_sums : Dd := { name := (Str.ofString "row_sums"), params := defArgs (top 18), scope := defScope (top 18), names := [(Str.ofString "rule"), (Str.ofString "many"), (Str.ofString "row")], np := 2, body := b_row_sums, vis := [0, 1], gls := [4, 21, 22, 23, 24], w := [0, 1], tr := false, lams := false }
def b_begins_with_e0 : E := .call 29 (.cons (.v 3 ⟨57, 58, 57, 61⟩) (.cons (.bin .Add (.v 2 ⟨57, 63, 57, 65⟩) (.int 1 0 ⟨57, 68, 57, 69⟩) ⟨57, 63, 57, 69⟩) .nil)) ⟨57, 51, 57, 57⟩ ⟨57, 51, 57, 70⟩
def b_begins_with : Ss := (.cons (.expr (.call 21 (.cons (.v 0 ⟨56, 14, 56, 18⟩) .nil) ⟨56, 4, 56, 13⟩ ⟨56, 4, 56, 19⟩) ⟨56, 4, 56, 19⟩) (.cons (.iff (.bop .Or (.cons (.not (.call 26 (.cons (.v 1 ⟨57, 23, 57, 28⟩) (.cons (.int 1 0 ⟨57, 30, 57, 31⟩) (.cons (.gl 23 (.int 30) ⟨57, 33, 57, 37⟩) .nil))) ⟨57, 11, 57, 22⟩ ⟨57, 11, 57, 38⟩) ⟨57, 7, 57, 38⟩) (.cons (.not (.blt .all 27 (.cons (.lc (b_begins_with_e0) (.tp (.cons (.nm 2 ⟨57, 75, 57, 77⟩) (.cons (.nm 3 ⟨57, 79, 57, 82⟩) .nil)) 0 ⟨57, 75, 57, 82⟩) (.en 28 (.v 1 ⟨57, 96, 57, 101⟩) ⟨57, 86, 57, 95⟩ ⟨57, 86, 57, 102⟩) .nil { kind := .function, names := [((Str.ofString ".0"), .«local»), ((Str.ofString "at"), .«local»), ((Str.ofString "row"), .«local»), ((Str.ofString "is_row"), .globalImplicit)], isGenerator := false, isCoroutine := false, more := [] } [2, 3] [2, 3] [29] ⟨57, 50, 57, 103⟩) .nil) ⟨57, 46, 57, 49⟩ ⟨57, 46, 57, 104⟩) ⟨57, 42, 57, 104⟩) .nil)) ⟨57, 7, 57, 104⟩) (.cons (.ret (.bl false 0 ⟨58, 15, 58, 20⟩) ⟨58, 8, 58, 20⟩) .nil) .nil ⟨57, 4, 58, 20⟩) (.cons (.ret (.cmp .Eq (.blt .list 14 (.cons (.v 1 ⟨59, 16, 59, 21⟩) .nil) ⟨59, 11, 59, 15⟩ ⟨59, 11, 59, 22⟩) (.call 24 (.cons (.v 0 ⟨59, 34, 59, 38⟩) (.cons (.blt .len 16 (.cons (.v 1 ⟨59, 44, 59, 49⟩) .nil) ⟨59, 40, 59, 43⟩ ⟨59, 40, 59, 50⟩) .nil)) ⟨59, 26, 59, 33⟩ ⟨59, 26, 59, 51⟩) ⟨59, 11, 59, 51⟩) ⟨59, 4, 59, 51⟩) .nil)))
def d_begins_with : Dd := { name := (Str.ofString "begins_with"), params := defArgs (top 20), scope := defScope (top 20), names := [(Str.ofString "rule"), (Str.ofString "value"), (Str.ofString "at"), (Str.ofString "row")], np := 2, body := b_begins_with, vis := [0, 1], gls := [14, 16, 21, 23, 24, 26, 27, 28], w := [0, 1], tr := false, lams := false }
def b__law_like_e0 : E := .int 1 0 ⟨84, 43, 84, 44⟩
def b__law_like : Ss := (.cons (.asg (.nm 2 ⟨80, 4, 80, 8⟩) (.call 30 (.cons (.v 1 ⟨80, 21, 80, 26⟩) .nil) ⟨80, 11, 80, 20⟩ ⟨80, 11, 80, 27⟩) ⟨80, 4, 80, 27⟩) (.cons (.iff (.bop .Or (.cons (.cmp .NotEq (.call 30 (.cons (.v 0 ⟨81, 17, 81, 20⟩) .nil) ⟨81, 7, 81, 16⟩ ⟨81, 7, 81, 21⟩) (.v 2 ⟨81, 25, 81, 29⟩) ⟨81, 7, 81, 29⟩) (.cons (.cmp .Eq (.v 2 ⟨81, 33, 81, 37⟩) (.int 6 0 ⟨81, 41, 81, 42⟩) ⟨81, 33, 81, 42⟩) .nil)) ⟨81, 7, 81, 42⟩) (.cons (.ret (.bl false 0 ⟨82, 15, 82, 20⟩) ⟨82, 8, 82, 20⟩) .nil) .nil ⟨81, 4, 82, 20⟩) (.cons (.iff (.cmp .In (.v 2 ⟨83, 7, 83, 11⟩) (.tup (.cons (.int 4 0 ⟨83, 16, 83, 17⟩) (.cons (.int 5 0 ⟨83, 19, 83, 20⟩) .nil)) 0 ⟨83, 15, 83, 21⟩) ⟨83, 7, 83, 21⟩) (.cons (.ret (.bop .And (.cons (.cmp .Eq (.blt .len 16 (.cons (.v 0 ⟨84, 19, 84, 22⟩) .nil) ⟨84, 15, 84, 18⟩ ⟨84, 15, 84, 23⟩) (.blt .len 16 (.cons (.v 1 ⟨84, 31, 84, 36⟩) .nil) ⟨84, 27, 84, 30⟩ ⟨84, 27, 84, 37⟩) ⟨84, 15, 84, 37⟩) (.cons (.cmp .Eq (.lc (b__law_like_e0) (.tp (.cons (.nm 3 ⟨84, 49, 84, 54⟩) (.cons (.nm 4 ⟨84, 56, 84, 62⟩) .nil)) 0 ⟨84, 49, 84, 62⟩) (.zp 31 (.v 0 ⟨84, 70, 84, 73⟩) (.v 1 ⟨84, 75, 84, 80⟩) ⟨84, 66, 84, 69⟩ ⟨84, 66, 84, 81⟩) (.cons (.not (.call 11 (.cons (.v 3 ⟨84, 99, 84, 104⟩) (.cons (.v 4 ⟨84, 106, 84, 112⟩) .nil)) ⟨84, 89, 84, 98⟩ ⟨84, 89, 84, 113⟩) ⟨84, 85, 84, 113⟩) .nil) { kind := .function, names := [((Str.ofString ".0"), .«local»), ((Str.ofString "first"), .«local»), ((Str.ofString "second"), .«local»), ((Str.ofString "_law_like"), .globalImplicit)], isGenerator := false, isCoroutine := false, more := [] } [3, 4] [3, 4] [11] ⟨84, 42, 84, 114⟩) (.lst .nil ⟨84, 118, 84, 120⟩) ⟨84, 42, 84, 120⟩) .nil)) ⟨84, 15, 84, 120⟩) ⟨84, 8, 84, 120⟩) .nil) .nil ⟨83, 4, 84, 120⟩) (.cons (.ret (.cmp .Eq (.v 0 ⟨85, 11, 85, 14⟩) (.v 1 ⟨85, 18, 85, 23⟩) ⟨85, 11, 85, 23⟩) ⟨85, 4, 85, 23⟩) .nil))))
def d__law_like : Dd := { name := (Str.ofString "_law_like"), params := defArgs (top 26), scope := defScope (top 26), names := [(Str.ofString "one"), (Str.ofString "other"), (Str.ofString "sort"), (Str.ofString "first"), (Str.ofString "second")], np := 2, body := b__law_like, vis := [0, 1, 2], gls := [16, 30, 31], w := [0, 1, 2], tr := false, lams := false }
def b__law_errors_e0 : E := .lam 32 ⟨[], [], none, [], [], none, []⟩ (.callv 4 (.cons (.v 2 ⟨132, 49, 132, 52⟩) (.cons (.non 0 ⟨132, 54, 132, 58⟩) .nil)) ⟨132, 44, 132, 48⟩ ⟨132, 44, 132, 59⟩) { kind := .function, names := [((Str.ofString "call"), .free), ((Str.ofString "odd"), .free)], isGenerator := false, isCoroutine := false, more := [] } [2, 4] [] ⟨132, 25, 132, 35⟩ ⟨132, 36, 132, 59⟩ ⟨132, 25, 132, 60⟩
def b__law_errors_b0 : Ss := (.cons (.fz 0) (.cons (.asgO 0 ⟨132, 8, 132, 13⟩ (.bin .Add (.v 0 ⟨132, 16, 132, 21⟩) (.lc (b__law_errors_e0) (.nm 4 ⟨132, 65, 132, 69⟩) (.seq (.tup (.cons (.gl 7 (.fn 7) ⟨132, 74, 132, 82⟩) (.cons (.gl 9 (.fn 9) ⟨132, 84, 132, 92⟩) (.cons (.gl 10 (.fn 10) ⟨132, 94, 132, 105⟩) .nil))) 0 ⟨132, 73, 132, 106⟩)) .nil { kind := .function, names := [((Str.ofString ".0"), .«local»), ((Str.ofString "call"), .cell), ((Str.ofString "_law_fails"), .globalImplicit), ((Str.ofString "odd"), .free)], isGenerator := false, isCoroutine := false, more := [] } [4] [] [32] ⟨132, 24, 132, 107⟩) ⟨132, 16, 132, 107⟩) ⟨132, 8, 132, 107⟩) (.cons (.app 0 ⟨133, 8, 133, 13⟩ ⟨133, 8, 133, 20⟩ ⟨133, 8, 133, 66⟩ (.lam 32 ⟨[], [], none, [], [], none, []⟩ (.call 8 (.cons (.v 2 ⟨133, 48, 133, 51⟩) (.cons (.non 0 ⟨133, 53, 133, 57⟩) (.cons (.non 0 ⟨133, 59, 133, 63⟩) .nil))) ⟨133, 40, 133, 47⟩ ⟨133, 40, 133, 64⟩) { kind := .function, names := [((Str.ofString "odd"), .free), ((Str.ofString "part_at"), .globalImplicit)], isGenerator := false, isCoroutine := false, more := [] } [2] [8] ⟨133, 21, 133, 31⟩ ⟨133, 32, 133, 64⟩ ⟨133, 21, 133, 65⟩) ⟨133, 8, 133, 66⟩) .nil)))
def b__law_errors_e1 : E := .lam 32 ⟨[], [], none, [], [], none, []⟩ (.callv 4 (.cons (.v 3 ⟨138, 49, 138, 53⟩) (.cons (.v 2 ⟨138, 55, 138, 58⟩) .nil)) ⟨138, 44, 138, 48⟩ ⟨138, 44, 138, 59⟩) { kind := .function, names := [((Str.ofString "call"), .free), ((Str.ofString "good"), .free), ((Str.ofString "odd"), .free)], isGenerator := false, isCoroutine := false, more := [] } [2, 3, 4] [] ⟨138, 25, 138, 35⟩ ⟨138, 36, 138, 59⟩ ⟨138, 25, 138, 60⟩
def b__law_errors_b1 : Ss := (.cons (.fz 0) (.cons (.asgO 0 ⟨138, 8, 138, 13⟩ (.bin .Add (.v 0 ⟨138, 16, 138, 21⟩) (.lc (b__law_errors_e1) (.nm 4 ⟨138, 65, 138, 69⟩) (.seq (.tup (.cons (.gl 7 (.fn 7) ⟨138, 74, 138, 82⟩) (.cons (.gl 9 (.fn 9) ⟨138, 84, 138, 92⟩) .nil)) 0 ⟨138, 73, 138, 93⟩)) .nil { kind := .function, names := [((Str.ofString ".0"), .«local»), ((Str.ofString "call"), .cell), ((Str.ofString "_law_fails"), .globalImplicit), ((Str.ofString "good"), .free), ((Str.ofString "odd"), .free)], isGenerator := false, isCoroutine := false, more := [] } [4] [] [32] ⟨138, 24, 138, 94⟩) ⟨138, 16, 138, 94⟩) ⟨138, 8, 138, 94⟩) .nil))
def b__law_errors_e2 : E := .lam 32 ⟨[], [], none, [], [], none, []⟩ (.call 8 (.cons (.v 3 ⟨139, 48, 139, 52⟩) (.cons (.v 2 ⟨139, 54, 139, 57⟩) (.cons (.non 0 ⟨139, 59, 139, 63⟩) .nil))) ⟨139, 40, 139, 47⟩ ⟨139, 40, 139, 64⟩) { kind := .function, names := [((Str.ofString "good"), .free), ((Str.ofString "odd"), .free), ((Str.ofString "part_at"), .globalImplicit)], isGenerator := false, isCoroutine := false, more := [] } [2, 3] [8] ⟨139, 21, 139, 31⟩ ⟨139, 32, 139, 64⟩ ⟨139, 21, 139, 65⟩
def b__law_errors_e3 : E := .lam 32 ⟨[], [], none, [], [], none, []⟩ (.call 8 (.cons (.v 3 ⟨140, 48, 140, 52⟩) (.cons (.int 3 0 ⟨140, 54, 140, 55⟩) (.cons (.v 2 ⟨140, 57, 140, 60⟩) .nil))) ⟨140, 40, 140, 47⟩ ⟨140, 40, 140, 61⟩) { kind := .function, names := [((Str.ofString "good"), .free), ((Str.ofString "odd"), .free), ((Str.ofString "part_at"), .globalImplicit)], isGenerator := false, isCoroutine := false, more := [] } [2, 3] [8] ⟨140, 21, 140, 31⟩ ⟨140, 32, 140, 61⟩ ⟨140, 21, 140, 62⟩
def b__law_errors : Ss := (.cons (.par false true 3 0 ⟨128, 4, 128, 8⟩ ⟨128, 10, 128, 15⟩ ⟨128, 4, 128, 15⟩ 0 (.tup (.cons (.int 1 0 ⟨128, 20, 128, 21⟩) (.cons (.int 0 0 ⟨128, 23, 128, 24⟩) (.cons (.int 0 0 ⟨128, 26, 128, 27⟩) (.cons (.int 1 0 ⟨128, 29, 128, 30⟩) (.cons (.int 0 0 ⟨128, 32, 128, 33⟩) (.cons (.int 0 0 ⟨128, 35, 128, 36⟩) .nil)))))) 0 ⟨128, 19, 128, 37⟩) (.lst .nil ⟨128, 39, 128, 41⟩) 0 ⟨128, 18, 128, 42⟩ ⟨128, 4, 128, 42⟩) (.cons (.asg (.nm 1 ⟨129, 4, 129, 7⟩) (.lst (.cons (.non 0 ⟨129, 11, 129, 15⟩) (.cons (.tup .nil 0 ⟨129, 17, 129, 19⟩) (.cons (.sl (.v 3 ⟨129, 21, 129, 25⟩) .no (.so (.int 5 0 ⟨129, 27, 129, 28⟩)) ⟨129, 26, 129, 28⟩ ⟨129, 21, 129, 29⟩) (.cons (.bin .Add (.v 3 ⟨129, 31, 129, 35⟩) (.tup (.cons (.int 0 0 ⟨129, 39, 129, 40⟩) .nil) 0 ⟨129, 38, 129, 42⟩) ⟨129, 31, 129, 42⟩) (.cons (.blt .list 14 (.cons (.v 3 ⟨129, 49, 129, 53⟩) .nil) ⟨129, 44, 129, 48⟩ ⟨129, 44, 129, 54⟩) .nil))))) ⟨129, 10, 129, 55⟩) ⟨129, 4, 129, 55⟩) (.cons (.asg (.nm 1 ⟨130, 4, 130, 7⟩) (.bin .Add (.v 1 ⟨130, 10, 130, 13⟩) (.lst (.cons (.bin .Add (.sl (.v 3 ⟨130, 17, 130, 21⟩) .no (.so (.int 5 0 ⟨130, 23, 130, 24⟩)) ⟨130, 22, 130, 24⟩ ⟨130, 17, 130, 25⟩) (.tup (.cons (.int 11 0 ⟨130, 29, 130, 31⟩) .nil) 0 ⟨130, 28, 130, 33⟩) ⟨130, 17, 130, 33⟩) (.cons (.bin .Add (.sl (.v 3 ⟨130, 35, 130, 39⟩) .no (.so (.int 5 0 ⟨130, 41, 130, 42⟩)) ⟨130, 40, 130, 42⟩ ⟨130, 35, 130, 43⟩) (.tup (.cons (.neg (.int 11 0 ⟨130, 48, 130, 50⟩) ⟨130, 47, 130, 50⟩) .nil) 0 ⟨130, 46, 130, 52⟩) ⟨130, 35, 130, 52⟩) (.cons (.bin .Add (.sl (.v 3 ⟨130, 54, 130, 58⟩) .no (.so (.int 5 0 ⟨130, 60, 130, 61⟩)) ⟨130, 59, 130, 61⟩ ⟨130, 54, 130, 62⟩) (.tup (.cons (.bl true 0 ⟨130, 66, 130, 70⟩) .nil) 0 ⟨130, 65, 130, 72⟩) ⟨130, 54, 130, 72⟩) (.cons (.bin .Add (.sl (.v 3 ⟨130, 74, 130, 78⟩) .no (.so (.int 5 0 ⟨130, 80, 130, 81⟩)) ⟨130, 79, 130, 81⟩ ⟨130, 74, 130, 82⟩) (.tup (.cons (.non 0 ⟨130, 86, 130, 90⟩) .nil) 0 ⟨130, 85, 130, 92⟩) ⟨130, 74, 130, 92⟩) (.cons (.int 1 0 ⟨130, 94, 130, 95⟩) .nil))))) ⟨130, 16, 130, 96⟩) ⟨130, 10, 130, 96⟩) ⟨130, 4, 130, 96⟩) (.cons (.fr (.nm 2 ⟨131, 8, 131, 11⟩) (.seq (.v 1 ⟨131, 15, 131, 18⟩)) b__law_errors_b0 ⟨131, 4, 133, 66⟩) (.cons (.iff (.bor 0 (.cmp .NotEq (.v 0 ⟨134, 7, 134, 12⟩) (.bin .Mult (.lst (.cons (.str (Str.ofString "rule") 0 ⟨134, 17, 134, 23⟩) .nil) ⟨134, 16, 134, 24⟩) (.bin .Mult (.int 4 0 ⟨134, 28, 134, 29⟩) (.blt .len 16 (.cons (.v 1 ⟨134, 36, 134, 39⟩) .nil) ⟨134, 32, 134, 35⟩ ⟨134, 32, 134, 40⟩) ⟨134, 28, 134, 40⟩) ⟨134, 16, 134, 41⟩) ⟨134, 7, 134, 41⟩)) (.cons (.ret (.bl false 0 ⟨135, 15, 135, 20⟩) ⟨135, 8, 135, 20⟩) .nil) .nil ⟨134, 4, 135, 20⟩) (.cons (.asgO 0 ⟨136, 4, 136, 9⟩ (.lst .nil ⟨136, 12, 136, 14⟩) ⟨136, 4, 136, 14⟩) (.cons (.fr (.nm 2 ⟨137, 8, 137, 11⟩) (.seq (.tup (.cons (.non 0 ⟨137, 16, 137, 20⟩) (.cons (.int 0 0 ⟨137, 22, 137, 23⟩) (.cons (.int 31 0 ⟨137, 25, 137, 27⟩) (.cons (.bl true 0 ⟨137, 29, 137, 33⟩) (.cons (.str (Str.ofString "1") 0 ⟨137, 35, 137, 38⟩) .nil))))) 0 ⟨137, 15, 137, 39⟩)) b__law_errors_b1 ⟨137, 4, 138, 94⟩) (.cons (.fz 0) (.cons (.asgO 0 ⟨139, 4, 139, 9⟩ (.bin .Add (.v 0 ⟨139, 12, 139, 17⟩) (.lc (b__law_errors_e2) (.nm 2 ⟨139, 70, 139, 73⟩) (.seq (.tup (.cons (.non 0 ⟨139, 78, 139, 82⟩) (.cons (.neg (.int 1 0 ⟨139, 85, 139, 86⟩) ⟨139, 84, 139, 86⟩) (.cons (.int 41 0 ⟨139, 88, 139, 90⟩) (.cons (.bl true 0 ⟨139, 92, 139, 96⟩) .nil)))) 0 ⟨139, 77, 139, 97⟩)) .nil { kind := .function, names := [((Str.ofString ".0"), .«local»), ((Str.ofString "odd"), .cell), ((Str.ofString "_law_fails"), .globalImplicit), ((Str.ofString "good"), .free)], isGenerator := false, isCoroutine := false, more := [] } [2] [] [32] ⟨139, 20, 139, 98⟩) ⟨139, 12, 139, 98⟩) ⟨139, 4, 139, 98⟩) (.cons (.fz 0) (.cons (.asgO 0 ⟨140, 4, 140, 9⟩ (.bin .Add (.v 0 ⟨140, 12, 140, 17⟩) (.lc (b__law_errors_e3) (.nm 2 ⟨140, 67, 140, 70⟩) (.seq (.tup (.cons (.non 0 ⟨140, 75, 140, 79⟩) (.cons (.neg (.int 1 0 ⟨140, 82, 140, 83⟩) ⟨140, 81, 140, 83⟩) (.cons (.int 4 0 ⟨140, 85, 140, 86⟩) (.cons (.bl true 0 ⟨140, 88, 140, 92⟩) .nil)))) 0 ⟨140, 74, 140, 93⟩)) .nil { kind := .function, names := [((Str.ofString ".0"), .«local»), ((Str.ofString "odd"), .cell), ((Str.ofString "_law_fails"), .globalImplicit), ((Str.ofString "good"), .free)], isGenerator := false, isCoroutine := false, more := [] } [2] [] [32] ⟨140, 20, 140, 94⟩) ⟨140, 12, 140, 94⟩) ⟨140, 4, 140, 94⟩) (.cons (.fz 0) (.cons (.ret (.cmp .Eq (.v 0 ⟨141, 11, 141, 16⟩) (.bin .Mult (.lst (.cons (.str (Str.ofString "number") 0 ⟨141, 21, 141, 29⟩) .nil) ⟨141, 20, 141, 30⟩) (.int 18 0 ⟨141, 33, 141, 35⟩) ⟨141, 20, 141, 35⟩) ⟨141, 11, 141, 35⟩) ⟨141, 4, 141, 35⟩) .nil)))))))))))))
def d__law_errors : Dd := { name := (Str.ofString "_law_errors"), params := defArgs (top 30), scope := defScope (top 30), names := [(Str.ofString "words"), (Str.ofString "bad"), (Str.ofString "odd"), (Str.ofString "good"), (Str.ofString "call")], np := 0, body := b__law_errors, vis := [0, 1, 2, 3], gls := [7, 9, 10, 14, 16, 32], w := [0, 1, 2, 3], tr := false, lams := true }
def b__law_rows_b0 : Ss := (.cons (.asg (.nm 11 ⟨101, 12, 101, 15⟩) (.bin .Mult (.bin .Add (.bin .Add (.v 2 ⟨101, 19, 101, 20⟩) (.bin .Mult (.v 3 ⟨101, 23, 101, 24⟩) (.v 9 ⟨101, 27, 101, 28⟩) ⟨101, 23, 101, 28⟩) ⟨101, 19, 101, 28⟩) (.bin .Mult (.v 4 ⟨101, 31, 101, 32⟩) (.v 10 ⟨101, 35, 101, 36⟩) ⟨101, 31, 101, 36⟩) ⟨101, 19, 101, 36⟩) (.dgt 8 (.cons (.bin .Sub (.v 9 ⟨101, 51, 101, 52⟩) (.int 1 0 ⟨101, 55, 101, 56⟩) ⟨101, 51, 101, 56⟩) (.cons (.v 10 ⟨101, 58, 101, 59⟩) .nil)) 0 ⟨101, 50, 101, 60⟩ (.int 0 0 ⟨101, 62, 101, 63⟩) ⟨101, 40, 101, 45⟩ ⟨101, 40, 101, 49⟩ ⟨101, 40, 101, 64⟩) ⟨101, 18, 101, 64⟩) ⟨101, 12, 101, 64⟩) (.cons (.dput 8 ⟨102, 12, 102, 17⟩ (.cons (.v 9 ⟨102, 18, 102, 19⟩) (.cons (.v 10 ⟨102, 21, 102, 22⟩) .nil)) 0 ⟨102, 18, 102, 22⟩ ⟨102, 12, 102, 23⟩ (.bin .Add (.v 11 ⟨102, 26, 102, 29⟩) (.bin .Mult (.bin .Add (.bin .Add (.v 5 ⟨102, 33, 102, 34⟩) (.bin .Mult (.v 6 ⟨102, 37, 102, 38⟩) (.v 9 ⟨102, 41, 102, 42⟩) ⟨102, 37, 102, 42⟩) ⟨102, 33, 102, 42⟩) (.bin .Mult (.v 7 ⟨102, 45, 102, 46⟩) (.v 10 ⟨102, 49, 102, 50⟩) ⟨102, 45, 102, 50⟩) ⟨102, 33, 102, 50⟩) (.dgt 8 (.cons (.bin .Sub (.v 9 ⟨102, 65, 102, 66⟩) (.int 1 0 ⟨102, 69, 102, 70⟩) ⟨102, 65, 102, 70⟩) (.cons (.bin .Sub (.v 10 ⟨102, 72, 102, 73⟩) (.int 1 0 ⟨102, 76, 102, 77⟩) ⟨102, 72, 102, 77⟩) .nil)) 0 ⟨102, 64, 102, 78⟩ (.int 0 0 ⟨102, 80, 102, 81⟩) ⟨102, 54, 102, 59⟩ ⟨102, 54, 102, 63⟩ ⟨102, 54, 102, 82⟩) ⟨102, 32, 102, 82⟩) ⟨102, 26, 102, 82⟩) ⟨102, 12, 102, 82⟩) .nil))
def b__law_rows_b1 : Ss := (.cons (.fr (.nm 10 ⟨100, 12, 100, 13⟩) (.rg1 2 (.bin .Add (.v 9 ⟨100, 23, 100, 24⟩) (.int 1 0 ⟨100, 27, 100, 28⟩) ⟨100, 23, 100, 28⟩) ⟨100, 17, 100, 22⟩ ⟨100, 17, 100, 29⟩) b__law_rows_b0 ⟨100, 8, 102, 82⟩) .nil)
def b__law_rows_e0 : E := .dget 8 (.cons (.v 9 ⟨103, 25, 103, 26⟩) (.cons (.v 10 ⟨103, 28, 103, 29⟩) .nil)) 0 ⟨103, 25, 103, 29⟩ ⟨103, 19, 103, 24⟩ ⟨103, 19, 103, 30⟩
def b__law_rows_e1 : E := .blt .tuple 4 (.cons (.lc (b__law_rows_e0) (.nm 10 ⟨103, 35, 103, 36⟩) (.rg1 2 (.bin .Add (.v 9 ⟨103, 46, 103, 47⟩) (.int 1 0 ⟨103, 50, 103, 51⟩) ⟨103, 46, 103, 51⟩) ⟨103, 40, 103, 45⟩ ⟨103, 40, 103, 52⟩) .nil { kind := .function, names := [((Str.ofString ".0"), .«local»), ((Str.ofString "k"), .«local»), ((Str.ofString "known"), .free), ((Str.ofString "n"), .free)], isGenerator := false, isCoroutine := false, more := [] } [10] [8, 9, 10] [] ⟨103, 18, 103, 53⟩) .nil) ⟨103, 12, 103, 17⟩ ⟨103, 12, 103, 54⟩
def b__law_rows : Ss := (.cons (.asg (.tp (.cons (.nm 2 ⟨97, 4, 97, 5⟩) (.cons (.nm 3 ⟨97, 7, 97, 8⟩) (.cons (.nm 4 ⟨97, 10, 97, 11⟩) (.cons (.nm 5 ⟨97, 13, 97, 14⟩) (.cons (.nm 6 ⟨97, 16, 97, 17⟩) (.cons (.nm 7 ⟨97, 19, 97, 20⟩) .nil)))))) 0 ⟨97, 4, 97, 20⟩) (.v 0 ⟨97, 23, 97, 27⟩) ⟨97, 4, 97, 27⟩) (.cons (.dnew1 8 ⟨98, 4, 98, 9⟩ (.cons (.int 0 0 ⟨98, 14, 98, 15⟩) (.cons (.int 0 0 ⟨98, 17, 98, 18⟩) .nil)) 0 ⟨98, 13, 98, 19⟩ (.int 1 0 ⟨98, 21, 98, 22⟩) ⟨98, 12, 98, 23⟩ ⟨98, 4, 98, 23⟩) (.cons (.fr (.nm 9 ⟨99, 8, 99, 9⟩) (.rg2 2 (.int 1 0 ⟨99, 19, 99, 20⟩) (.v 1 ⟨99, 22, 99, 26⟩) ⟨99, 13, 99, 18⟩ ⟨99, 13, 99, 27⟩) b__law_rows_b1 ⟨99, 4, 102, 82⟩) (.cons (.ret (.lc (b__law_rows_e1) (.nm 9 ⟨103, 59, 103, 60⟩) (.rg1 2 (.v 1 ⟨103, 70, 103, 74⟩) ⟨103, 64, 103, 69⟩ ⟨103, 64, 103, 75⟩) .nil { kind := .function, names := [((Str.ofString ".0"), .«local»), ((Str.ofString "n"), .cell), ((Str.ofString "tuple"), .globalImplicit), ((Str.ofString "range"), .globalImplicit), ((Str.ofString "known"), .free)], isGenerator := false, isCoroutine := false, more := [] } [9] [8, 9] [2, 4] ⟨103, 11, 103, 76⟩) ⟨103, 4, 103, 76⟩) .nil))))
def d__law_rows : Dd := { name := (Str.ofString "_law_rows"), params := defArgs (top 28), scope := defScope (top 28), names := [(Str.ofString "rule"), (Str.ofString "many"), (Str.ofString "a"), (Str.ofString "b"), (Str.ofString "c"), (Str.ofString "d"), (Str.ofString "e"), (Str.ofString "f"), (Str.ofString "known"), (Str.ofString "n"), (Str.ofString "k"), (Str.ofString "one")], np := 2, body := b__law_rows, vis := [0, 1, 2, 3, 4, 5, 6, 7, 8, 9, 10, 11], gls := [2], w := [0, 1, 2, 3, 4, 5, 6, 7, 8, 9, 10, 11], tr := false, lams := false }
def b_need_rule : Ss := (.cons (.iff (.not (.call 33 (.cons (.v 0 ⟨23, 22, 23, 26⟩) (.cons (.int 6 0 ⟨23, 28, 23, 29⟩) (.cons (.neg (.gl 34 (.int 10) ⟨23, 32, 23, 36⟩) ⟨23, 31, 23, 36⟩) (.cons (.gl 34 (.int 10) ⟨23, 38, 23, 42⟩) .nil)))) ⟨23, 11, 23, 21⟩ ⟨23, 11, 23, 43⟩) ⟨23, 7, 23, 43⟩) (.cons (.rai 35 (Str.ofString "not a triangle rule") 0 ⟨24, 14, 24, 25⟩ ⟨24, 26, 24, 47⟩ ⟨24, 14, 24, 48⟩ ⟨24, 8, 24, 48⟩) .nil) .nil ⟨23, 4, 24, 48⟩) .nil)
def d_need_rule : Dd := { name := (Str.ofString "need_rule"), params := defArgs (top 13), scope := defScope (top 13), names := [(Str.ofString "rule")], np := 1, body := b_need_rule, vis := [0], gls := [33, 34, 35], w := [0], tr := false, lams := false }
def b_need_whole : Ss := (.cons (.iff (.not (.call 36 (.cons (.v 0 ⟨12, 20, 12, 25⟩) (.cons (.v 1 ⟨12, 27, 12, 30⟩) (.cons (.v 2 ⟨12, 32, 12, 36⟩) .nil))) ⟨12, 11, 12, 19⟩ ⟨12, 11, 12, 37⟩) ⟨12, 7, 12, 37⟩) (.cons (.rai 37 (Str.ofString "not an integer within the bounds") 0 ⟨13, 14, 13, 27⟩ ⟨13, 28, 13, 62⟩ ⟨13, 14, 13, 63⟩ ⟨13, 8, 13, 63⟩) .nil) .nil ⟨12, 4, 13, 63⟩) .nil)
def d_need_whole : Dd := { name := (Str.ofString "need_whole"), params := defArgs (top 6), scope := defScope (top 6), names := [(Str.ofString "value"), (Str.ofString "low"), (Str.ofString "high")], np := 3, body := b_need_whole, vis := [0, 1, 2], gls := [36, 37], w := [0, 1, 2], tr := false, lams := false }
def b_rows_in_b0 : Ss := (.cons (.app 2 ⟨36, 8, 36, 13⟩ ⟨36, 8, 36, 20⟩ ⟨36, 8, 36, 59⟩ (.bor 2 (.call 38 (.cons (.v 0 ⟨36, 30, 36, 34⟩) (.cons (.blt .len 16 (.cons (.v 2 ⟨36, 40, 36, 45⟩) .nil) ⟨36, 36, 36, 39⟩ ⟨36, 36, 36, 46⟩) (.cons (.ix (.v 2 ⟨36, 48, 36, 53⟩) (.neg (.int 1 0 ⟨36, 55, 36, 56⟩) ⟨36, 54, 36, 56⟩) ⟨36, 48, 36, 57⟩) .nil))) ⟨36, 21, 36, 29⟩ ⟨36, 21, 36, 58⟩)) ⟨36, 8, 36, 59⟩) .nil)
def b_rows_in : Ss := (.cons (.asgO 2 ⟨34, 4, 34, 9⟩ (.lst (.cons (.tup (.cons (.int 1 0 ⟨34, 14, 34, 15⟩) .nil) 0 ⟨34, 13, 34, 17⟩) .nil) ⟨34, 12, 34, 18⟩) ⟨34, 4, 34, 18⟩) (.cons (.whl (.bor 2 (.cmp .Lt (.blt .len 16 (.cons (.v 2 ⟨35, 14, 35, 19⟩) .nil) ⟨35, 10, 35, 13⟩ ⟨35, 10, 35, 20⟩) (.v 1 ⟨35, 23, 35, 27⟩) ⟨35, 10, 35, 27⟩)) b_rows_in_b0 ⟨35, 4, 36, 59⟩) (.cons (.fz 2) (.cons (.ret (.sl (.v 2 ⟨37, 11, 37, 16⟩) .no (.so (.v 1 ⟨37, 18, 37, 22⟩)) ⟨37, 17, 37, 22⟩ ⟨37, 11, 37, 23⟩) ⟨37, 4, 37, 23⟩) .nil))))
def d_rows_in : Dd := { name := (Str.ofString "rows_in"), params := defArgs (top 15), scope := defScope (top 15), names := [(Str.ofString "rule"), (Str.ofString "many"), (Str.ofString "found")], np := 2, body := b_rows_in, vis := [0, 1, 2], gls := [16, 38], w := [0, 1, 2], tr := false, lams := false }
def b_is_tuple_of : Ss := (.cons (.ret (.bop .And (.cons (.isi 19 (.v 0 ⟨15, 22, 15, 27⟩) 20 ⟨15, 11, 15, 21⟩ ⟨15, 29, 15, 34⟩ ⟨15, 11, 15, 35⟩) (.cons (.cmp2 .LtE .LtE (.v 1 ⟨15, 40, 15, 43⟩) (.blt .len 16 (.cons (.v 0 ⟨15, 51, 15, 56⟩) .nil) ⟨15, 47, 15, 50⟩ ⟨15, 47, 15, 57⟩) (.v 2 ⟨15, 61, 15, 65⟩) ⟨15, 40, 15, 65⟩) .nil)) ⟨15, 11, 15, 65⟩) ⟨15, 4, 15, 65⟩) .nil)
def d_is_tuple_of : Dd := { name := (Str.ofString "is_tuple_of"), params := defArgs (top 7), scope := defScope (top 7), names := [(Str.ofString "value"), (Str.ofString "low"), (Str.ofString "high")], np := 3, body := b_is_tuple_of, vis := [0, 1, 2], gls := [16, 19, 20], w := [0, 1, 2], tr := false, lams := false }
def b_is_row_e0 : E := .bop .And (.cons (.isi 19 (.v 2 ⟨54, 27, 54, 31⟩) 39 ⟨54, 16, 54, 26⟩ ⟨54, 33, 54, 36⟩ ⟨54, 16, 54, 37⟩) (.cons (.not (.isi 19 (.v 2 ⟨54, 58, 54, 62⟩) 40 ⟨54, 47, 54, 57⟩ ⟨54, 64, 54, 68⟩ ⟨54, 47, 54, 69⟩) ⟨54, 43, 54, 69⟩) .nil)) ⟨54, 16, 54, 70⟩
def b_is_row : Ss := (.cons (.iff (.not (.call 26 (.cons (.v 0 ⟨52, 23, 52, 28⟩) (.cons (.v 1 ⟨52, 30, 52, 34⟩) (.cons (.v 1 ⟨52, 36, 52, 40⟩) .nil))) ⟨52, 11, 52, 22⟩ ⟨52, 11, 52, 41⟩) ⟨52, 7, 52, 41⟩) (.cons (.ret (.bl false 0 ⟨53, 15, 53, 20⟩) ⟨53, 8, 53, 20⟩) .nil) .nil ⟨52, 4, 53, 20⟩) (.cons (.ret (.blt .all 27 (.cons (.lc (b_is_row_e0) (.nm 2 ⟨54, 75, 54, 79⟩) (.seq (.v 0 ⟨54, 83, 54, 88⟩)) .nil { kind := .function, names := [((Str.ofString ".0"), .«local»), ((Str.ofString "part"), .«local»), ((Str.ofString "isinstance"), .globalImplicit), ((Str.ofString "int"), .globalImplicit), ((Str.ofString "bool"), .globalImplicit)], isGenerator := false, isCoroutine := false, more := [] } [2] [2] [19, 39, 40] ⟨54, 15, 54, 89⟩) .nil) ⟨54, 11, 54, 14⟩ ⟨54, 11, 54, 90⟩) ⟨54, 4, 54, 90⟩) .nil))
def d_is_row : Dd := { name := (Str.ofString "is_row"), params := defArgs (top 19), scope := defScope (top 19), names := [(Str.ofString "value"), (Str.ofString "long"), (Str.ofString "part")], np := 2, body := b_is_row, vis := [0, 1], gls := [26, 27], w := [0, 1], tr := false, lams := false }
def b__law_sort : Ss := (.cons (.iff (.bop .Or (.cons (.cmp .Is (.v 0 ⟨74, 7, 74, 12⟩) (.non 0 ⟨74, 16, 74, 20⟩) ⟨74, 7, 74, 20⟩) (.cons (.isi 19 (.v 0 ⟨74, 35, 74, 40⟩) 40 ⟨74, 24, 74, 34⟩ ⟨74, 42, 74, 46⟩ ⟨74, 24, 74, 47⟩) .nil)) ⟨74, 7, 74, 47⟩) (.cons (.ret (.ife (.cmp .Is (.v 0 ⟨75, 20, 75, 25⟩) (.non 0 ⟨75, 29, 75, 33⟩) ⟨75, 20, 75, 33⟩) (.int 0 0 ⟨75, 15, 75, 16⟩) (.int 1 0 ⟨75, 39, 75, 40⟩) ⟨75, 15, 75, 40⟩) ⟨75, 8, 75, 40⟩) .nil) .nil ⟨74, 4, 75, 40⟩) (.cons (.iff (.bop .Or (.cons (.isi 19 (.v 0 ⟨76, 18, 76, 23⟩) 39 ⟨76, 7, 76, 17⟩ ⟨76, 25, 76, 28⟩ ⟨76, 7, 76, 29⟩) (.cons (.isi 19 (.v 0 ⟨76, 44, 76, 49⟩) 41 ⟨76, 33, 76, 43⟩ ⟨76, 51, 76, 54⟩ ⟨76, 33, 76, 55⟩) .nil)) ⟨76, 7, 76, 55⟩) (.cons (.ret (.ife (.isi 19 (.v 0 ⟨77, 31, 77, 36⟩) 39 ⟨77, 20, 77, 30⟩ ⟨77, 38, 77, 41⟩ ⟨77, 20, 77, 42⟩) (.int 2 0 ⟨77, 15, 77, 16⟩) (.int 3 0 ⟨77, 48, 77, 49⟩) ⟨77, 15, 77, 49⟩) ⟨77, 8, 77, 49⟩) .nil) .nil ⟨76, 4, 77, 49⟩) (.cons (.ret (.ife (.isi 19 (.v 0 ⟨78, 27, 78, 32⟩) 20 ⟨78, 16, 78, 26⟩ ⟨78, 34, 78, 39⟩ ⟨78, 16, 78, 40⟩) (.int 4 0 ⟨78, 11, 78, 12⟩) (.ife (.isi 19 (.v 0 ⟨78, 62, 78, 67⟩) 42 ⟨78, 51, 78, 61⟩ ⟨78, 69, 78, 73⟩ ⟨78, 51, 78, 74⟩) (.int 5 0 ⟨78, 46, 78, 47⟩) (.int 6 0 ⟨78, 80, 78, 81⟩) ⟨78, 46, 78, 81⟩) ⟨78, 11, 78, 81⟩) ⟨78, 4, 78, 81⟩) .nil)))
def d__law_sort : Dd := { name := (Str.ofString "_law_sort"), params := defArgs (top 25), scope := defScope (top 25), names := [(Str.ofString "value")], np := 1, body := b__law_sort, vis := [0], gls := [19, 20, 39, 40, 41, 42], w := [0], tr := false, lams := false }
def b__law_fails_e0 : E := .v 4 ⟨93, 17, 93, 21⟩
def b__law_fails : Ss := (.cons (.tre (.act 0 ⟨88, 8, 88, 12⟩ ⟨88, 8, 88, 14⟩) ⟨88, 8, 88, 14⟩ 43 1 ⟨89, 11, 89, 19⟩ ⟨89, 4, 94, 58⟩ (.cons (.asgO 2 ⟨90, 8, 90, 12⟩ (.lst .nil ⟨90, 15, 90, 17⟩) ⟨90, 8, 90, 17⟩) (.cons (.app 2 ⟨91, 8, 91, 12⟩ ⟨91, 8, 91, 19⟩ ⟨91, 8, 91, 61⟩ (.tup (.cons (.str (Str.ofString "number") 0 ⟨91, 21, 91, 29⟩) (.cons (.isi 19 (.v 1 ⟨91, 42, 91, 43⟩) 37 ⟨91, 31, 91, 41⟩ ⟨91, 45, 91, 58⟩ ⟨91, 31, 91, 59⟩) .nil)) 0 ⟨91, 20, 91, 60⟩) ⟨91, 8, 91, 61⟩) (.cons (.app 2 ⟨92, 8, 92, 12⟩ ⟨92, 8, 92, 19⟩ ⟨92, 8, 92, 57⟩ (.tup (.cons (.str (Str.ofString "rule") 0 ⟨92, 21, 92, 27⟩) (.cons (.isi 19 (.v 1 ⟨92, 40, 92, 41⟩) 35 ⟨92, 29, 92, 39⟩ ⟨92, 43, 92, 54⟩ ⟨92, 29, 92, 55⟩) .nil)) 0 ⟨92, 20, 92, 56⟩) ⟨92, 8, 92, 57⟩) (.cons (.asg (.nm 3 ⟨93, 8, 93, 13⟩) (.bor 2 (.lc (b__law_fails_e0) (.tp (.cons (.nm 4 ⟨93, 26, 93, 30⟩) (.cons (.nm 5 ⟨93, 32, 93, 36⟩) .nil)) 0 ⟨93, 26, 93, 36⟩) (.seq (.v 2 ⟨93, 40, 93, 44⟩)) (.cons (.v 5 ⟨93, 48, 93, 52⟩) .nil) { kind := .function, names := [((Str.ofString ".0"), .«local»), ((Str.ofString "word"), .«local»), ((Str.ofString "good"), .«local»)], isGenerator := false, isCoroutine := false, more := [] } [4, 5] [4, 5] [] ⟨93, 16, 93, 53⟩)) ⟨93, 8, 93, 53⟩) (.cons (.ret (.ife (.cmp .NotEq (.v 3 ⟨94, 34, 94, 39⟩) (.lst .nil ⟨94, 43, 94, 45⟩) ⟨94, 34, 94, 45⟩) (.join (Str.ofString " ") 0 (.v 3 ⟨94, 24, 94, 29⟩) ⟨94, 15, 94, 18⟩ ⟨94, 15, 94, 23⟩ ⟨94, 15, 94, 30⟩) (.str (Str.ofString "other") 0 ⟨94, 51, 94, 58⟩) ⟨94, 15, 94, 58⟩) ⟨94, 8, 94, 58⟩) .nil))))) ⟨87, 4, 94, 58⟩) (.cons (.ret (.str (Str.ofString "") 0 ⟨95, 11, 95, 13⟩) ⟨95, 4, 95, 13⟩) .nil))
def d__law_fails : Dd := { name := (Str.ofString "_law_fails"), params := defArgs (top 27), scope := defScope (top 27), names := [(Str.ofString "call"), (Str.ofString "e"), (Str.ofString "some"), (Str.ofString "words"), (Str.ofString "word"), (Str.ofString "good")], np := 1, body := b__law_fails, vis := [0, 1, 2, 3], gls := [19, 35, 37, 43], w := [0, 1, 2, 3], tr := true, lams := false }
def b_are_wholes_e0 : E := .call 36 (.cons (.v 4 ⟨17, 60, 17, 63⟩) (.cons (.v 2 ⟨17, 65, 17, 68⟩) (.cons (.v 3 ⟨17, 70, 17, 74⟩) .nil))) ⟨17, 51, 17, 59⟩ ⟨17, 51, 17, 75⟩
def b_are_wholes : Ss := (.cons (.ret (.bop .And (.cons (.call 26 (.cons (.v 0 ⟨17, 23, 17, 28⟩) (.cons (.v 1 ⟨17, 30, 17, 34⟩) (.cons (.v 1 ⟨17, 36, 17, 40⟩) .nil))) ⟨17, 11, 17, 22⟩ ⟨17, 11, 17, 41⟩) (.cons (.blt .all 27 (.cons (.lc (b_are_wholes_e0) (.nm 4 ⟨17, 80, 17, 83⟩) (.seq (.v 0 ⟨17, 87, 17, 92⟩)) .nil { kind := .function, names := [((Str.ofString ".0"), .«local»), ((Str.ofString "one"), .«local»), ((Str.ofString "is_whole"), .globalImplicit), ((Str.ofString "high"), .free), ((Str.ofString "low"), .free)], isGenerator := false, isCoroutine := false, more := [] } [4] [2, 3, 4] [36] ⟨17, 50, 17, 93⟩) .nil) ⟨17, 46, 17, 49⟩ ⟨17, 46, 17, 94⟩) .nil)) ⟨17, 11, 17, 94⟩) ⟨17, 4, 17, 94⟩) .nil)
def d_are_wholes : Dd := { name := (Str.ofString "are_wholes"), params := defArgs (top 8), scope := defScope (top 8), names := [(Str.ofString "value"), (Str.ofString "many"), (Str.ofString "low"), (Str.ofString "high"), (Str.ofString "one")], np := 4, body := b_are_wholes, vis := [0, 1, 2, 3], gls := [26, 27], w := [0, 1, 2, 3], tr := false, lams := false }
def b_is_whole : Ss := (.cons (.ret (.bop .And (.cons (.isi 19 (.v 0 ⟨10, 22, 10, 27⟩) 39 ⟨10, 11, 10, 21⟩ ⟨10, 29, 10, 32⟩ ⟨10, 11, 10, 33⟩) (.cons (.not (.isi 19 (.v 0 ⟨10, 54, 10, 59⟩) 40 ⟨10, 43, 10, 53⟩ ⟨10, 61, 10, 65⟩ ⟨10, 43, 10, 66⟩) ⟨10, 39, 10, 66⟩) (.cons (.cmp2 .LtE .LtE (.v 1 ⟨10, 73, 10, 76⟩) (.v 0 ⟨10, 80, 10, 85⟩) (.v 2 ⟨10, 89, 10, 93⟩) ⟨10, 73, 10, 93⟩) .nil))) ⟨10, 11, 10, 94⟩) ⟨10, 4, 10, 94⟩) .nil)
def d_is_whole : Dd := { name := (Str.ofString "is_whole"), params := defArgs (top 5), scope := defScope (top 5), names := [(Str.ofString "value"), (Str.ofString "low"), (Str.ofString "high")], np := 3, body := b_is_whole, vis := [0, 1, 2], gls := [19, 39, 40], w := [0, 1, 2], tr := false, lams := false }
def b_next_row_b0 : Ss := (.cons (.asg (.nm 12 ⟨30, 8, 30, 12⟩) (.ife (.cmp .Gt (.v 11 ⟨30, 31, 30, 32⟩) (.int 0 0 ⟨30, 35, 30, 36⟩) ⟨30, 31, 30, 36⟩) (.ix (.v 9 ⟨30, 15, 30, 20⟩) (.bin .Sub (.v 11 ⟨30, 21, 30, 22⟩) (.int 1 0 ⟨30, 25, 30, 26⟩) ⟨30, 21, 30, 26⟩) ⟨30, 15, 30, 27⟩) (.int 0 0 ⟨30, 42, 30, 43⟩) ⟨30, 15, 30, 43⟩) ⟨30, 8, 30, 43⟩) (.cons (.app 10 ⟨31, 8, 31, 13⟩ ⟨31, 8, 31, 20⟩ ⟨31, 8, 31, 81⟩ (.bin .Add (.bin .Mult (.bin .Add (.bin .Add (.v 3 ⟨31, 22, 31, 23⟩) (.bin .Mult (.v 4 ⟨31, 26, 31, 27⟩) (.v 1 ⟨31, 30, 31, 31⟩) ⟨31, 26, 31, 31⟩) ⟨31, 22, 31, 31⟩) (.bin .Mult (.v 5 ⟨31, 34, 31, 35⟩) (.v 11 ⟨31, 38, 31, 39⟩) ⟨31, 34, 31, 39⟩) ⟨31, 22, 31, 39⟩) (.ix (.v 9 ⟨31, 43, 31, 48⟩) (.v 11 ⟨31, 49, 31, 50⟩) ⟨31, 43, 31, 51⟩) ⟨31, 21, 31, 51⟩) (.bin .Mult (.bin .Add (.bin .Add (.v 6 ⟨31, 55, 31, 56⟩) (.bin .Mult (.v 7 ⟨31, 59, 31, 60⟩) (.v 1 ⟨31, 63, 31, 64⟩) ⟨31, 59, 31, 64⟩) ⟨31, 55, 31, 64⟩) (.bin .Mult (.v 8 ⟨31, 67, 31, 68⟩) (.v 11 ⟨31, 71, 31, 72⟩) ⟨31, 67, 31, 72⟩) ⟨31, 55, 31, 72⟩) (.v 12 ⟨31, 76, 31, 80⟩) ⟨31, 54, 31, 80⟩) ⟨31, 21, 31, 80⟩) ⟨31, 8, 31, 81⟩) .nil))
def b_next_row : Ss := (.cons (.asg (.tp (.cons (.nm 3 ⟨26, 4, 26, 5⟩) (.cons (.nm 4 ⟨26, 7, 26, 8⟩) (.cons (.nm 5 ⟨26, 10, 26, 11⟩) (.cons (.nm 6 ⟨26, 13, 26, 14⟩) (.cons (.nm 7 ⟨26, 16, 26, 17⟩) (.cons (.nm 8 ⟨26, 19, 26, 20⟩) .nil)))))) 0 ⟨26, 4, 26, 20⟩) (.v 0 ⟨26, 23, 26, 27⟩) ⟨26, 4, 26, 27⟩) (.cons (.asg (.nm 9 ⟨27, 4, 27, 9⟩) (.bin .Add (.blt .list 14 (.cons (.v 2 ⟨27, 17, 27, 20⟩) .nil) ⟨27, 12, 27, 16⟩ ⟨27, 12, 27, 21⟩) (.lst (.cons (.int 0 0 ⟨27, 25, 27, 26⟩) .nil) ⟨27, 24, 27, 27⟩) ⟨27, 12, 27, 27⟩) ⟨27, 4, 27, 27⟩) (.cons (.asgO 10 ⟨28, 4, 28, 9⟩ (.lst .nil ⟨28, 12, 28, 14⟩) ⟨28, 4, 28, 14⟩) (.cons (.fr (.nm 11 ⟨29, 8, 29, 9⟩) (.rg1 2 (.bin .Add (.v 1 ⟨29, 19, 29, 20⟩) (.int 1 0 ⟨29, 23, 29, 24⟩) ⟨29, 19, 29, 24⟩) ⟨29, 13, 29, 18⟩ ⟨29, 13, 29, 25⟩) b_next_row_b0 ⟨29, 4, 31, 81⟩) (.cons (.fz 10) (.cons (.ret (.blt .tuple 4 (.cons (.v 10 ⟨32, 17, 32, 22⟩) .nil) ⟨32, 11, 32, 16⟩ ⟨32, 11, 32, 23⟩) ⟨32, 4, 32, 23⟩) .nil))))))
def d_next_row : Dd := { name := (Str.ofString "next_row"), params := defArgs (top 14), scope := defScope (top 14), names := [(Str.ofString "rule"), (Str.ofString "n"), (Str.ofString "row"), (Str.ofString "a"), (Str.ofString "b"), (Str.ofString "c"), (Str.ofString "d"), (Str.ofString "e"), (Str.ofString "f"), (Str.ofString "above"), (Str.ofString "found"), (Str.ofString "k"), (Str.ofString "left")], np := 3, body := b_next_row, vis := [0, 1, 2, 3, 4, 5, 6, 7, 8, 9, 10, 11, 12], gls := [2, 4, 14], w := [0, 1, 2, 3, 4, 5, 6, 7, 8, 9, 10, 11, 12], tr := false, lams := false }
def GN0 : List Str := [(Str.ofString "law"), (Str.ofString "_law_cup"), (Str.ofString "range"), (Str.ofString "_law_some"), (Str.ofString "tuple"), (Str.ofString "_law_roll"), (Str.ofString "_law_right"), (Str.ofString "triangle"), (Str.ofString "part_at"), (Str.ofString "row_sums"), (Str.ofString "begins_with"), (Str.ofString "_law_like"), (Str.ofString "_law_errors"), (Str.ofString "abs"), (Str.ofString "list"), (Str.ofString "int"), (Str.ofString "len"), (Str.ofString "_law_rows"), (Str.ofString "sum"), (Str.ofString "isinstance"), (Str.ofString "tuple"), (Str.ofString "need_rule"), (Str.ofString "need_whole"), (Str.ofString "MANY"), (Str.ofString "rows_in"), (Str.ofString "DEEP"), (Str.ofString "is_tuple_of"), (Str.ofString "all"), (Str.ofString "enumerate"), (Str.ofString "is_row")]
def GN1 : List Str := [(Str.ofString "_law_sort"), (Str.ofString "zip"), (Str.ofString "_law_fails"), (Str.ofString "are_wholes"), (Str.ofString "PART"), (Str.ofString "InvalidRule"), (Str.ofString "is_whole"), (Str.ofString "InvalidNumber"), (Str.ofString "next_row"), (Str.ofString "int"), (Str.ofString "bool"), (Str.ofString "str"), (Str.ofString "list"), (Str.ofString "SumError")]
def GN : List Str := GN0 ++ GN1
def KT0 : List GK := [.fn, .fn, .rng, .fn, .blt .tuple, .fn, .fn, .fn, .fn, .fn, .fn, .fn, .fn, .blt .abs, .blt .list, .blt .int, .blt .len, .fn, .blt .sum, .isi, .ty "tuple", .fn, .fn, .val (.int 30), .fn, .val (.int 40), .fn, .blt .all, .enu, .fn]
def KT1 : List GK := [.fn, .zip, .fn, .fn, .val (.int 10), .cls, .fn, .cls, .fn, .ty "int", .ty "bool", .ty "str", .ty "list", .cls]
def KT : List GK := KT0 ++ KT1
def DT0 : List (Option Dd) := [some d_law, some d__law_cup, none, some d__law_some, none, some d__law_roll, some d__law_right, some d_triangle, some d_part_at, some d_row_sums, some d_begins_with, some d__law_like, some d__law_errors, none, none, none, none, some d__law_rows, none, none, none, some d_need_rule, some d_need_whole, none, some d_rows_in, none, some d_is_tuple_of, none, none, some d_is_row]
def DT1 : List (Option Dd) := [some d__law_sort, none, some d__law_fails, some d_are_wholes, none, none, some d_is_whole, none, some d_next_row, none, none, none, none, none]
def DT : List (Option Dd) := DT0 ++ DT1
def sub : List (Nat × Nat × Bool) := [(35, 35, true), (35, 37, false), (35, 43, true), (37, 35, false), (37, 37, true), (37, 43, true), (43, 35, false), (43, 37, false), (43, 43, true)]
def tg : List Nat := [12]
abbrev go (l : Bool) (n g : Nat) (args : List D) : M D := run (Pd (pOf DT)) (clsOf (kOf KT) (subOf sub)) 4000 l n g args
abbrev cl (l : Bool) (n : Nat) : Cl := Cm (pOf DT) (clsOf (kOf KT) (subOf sub)) 4000 (go l n) (go false n) l
theorem go_step (l : Bool) (n g : Nat) (d : Dd) (h : pOf DT g = some d) (args : List D) : go l (n + 1) g args = bodyM (cl l n) d.df args := by
  show (match Pd (pOf DT) g with | some d => _ | none => M.no) = _
  have e : Pd (pOf DT) g = some d.df := by unfold Pd; rw [h]; rfl
  rw [e]
  rfl
theorem st_law (l : Bool) (n : Nat) (args : List D) : go l (n + 1) 0 args = bodyM (cl l n) d_law.df args := go_step l n 0 d_law rfl args
theorem st__law_cup (l : Bool) (n : Nat) (args : List D) : go l (n + 1) 1 args = bodyM (cl l n) d__law_cup.df args := go_step l n 1 d__law_cup rfl args
theorem st__law_some (l : Bool) (n : Nat) (args : List D) : go l (n + 1) 3 args = bodyM (cl l n) d__law_some.df args := go_step l n 3 d__law_some rfl args
theorem st__law_roll (l : Bool) (n : Nat) (args : List D) : go l (n + 1) 5 args = bodyM (cl l n) d__law_roll.df args := go_step l n 5 d__law_roll rfl args
theorem st__law_right (l : Bool) (n : Nat) (args : List D) : go l (n + 1) 6 args = bodyM (cl l n) d__law_right.df args := go_step l n 6 d__law_right rfl args
theorem st_triangle (l : Bool) (n : Nat) (args : List D) : go l (n + 1) 7 args = bodyM (cl l n) d_triangle.df args := go_step l n 7 d_triangle rfl args
theorem st_part_at (l : Bool) (n : Nat) (args : List D) : go l (n + 1) 8 args = bodyM (cl l n) d_part_at.df args := go_step l n 8 d_part_at rfl args
theorem st_row_sums (l : Bool) (n : Nat) (args : List D) : go l (n + 1) 9 args = bodyM (cl l n) d_row_sums.df args := go_step l n 9 d_row_sums rfl args
theorem st_begins_with (l : Bool) (n : Nat) (args : List D) : go l (n + 1) 10 args = bodyM (cl l n) d_begins_with.df args := go_step l n 10 d_begins_with rfl args
theorem st__law_like (l : Bool) (n : Nat) (args : List D) : go l (n + 1) 11 args = bodyM (cl l n) d__law_like.df args := go_step l n 11 d__law_like rfl args
theorem st__law_errors (l : Bool) (n : Nat) (args : List D) : go l (n + 1) 12 args = bodyM (cl l n) d__law_errors.df args := go_step l n 12 d__law_errors rfl args
theorem st__law_rows (l : Bool) (n : Nat) (args : List D) : go l (n + 1) 17 args = bodyM (cl l n) d__law_rows.df args := go_step l n 17 d__law_rows rfl args
theorem st_need_rule (l : Bool) (n : Nat) (args : List D) : go l (n + 1) 21 args = bodyM (cl l n) d_need_rule.df args := go_step l n 21 d_need_rule rfl args
theorem st_need_whole (l : Bool) (n : Nat) (args : List D) : go l (n + 1) 22 args = bodyM (cl l n) d_need_whole.df args := go_step l n 22 d_need_whole rfl args
theorem st_rows_in (l : Bool) (n : Nat) (args : List D) : go l (n + 1) 24 args = bodyM (cl l n) d_rows_in.df args := go_step l n 24 d_rows_in rfl args
theorem st_is_tuple_of (l : Bool) (n : Nat) (args : List D) : go l (n + 1) 26 args = bodyM (cl l n) d_is_tuple_of.df args := go_step l n 26 d_is_tuple_of rfl args
theorem st_is_row (l : Bool) (n : Nat) (args : List D) : go l (n + 1) 29 args = bodyM (cl l n) d_is_row.df args := go_step l n 29 d_is_row rfl args
theorem st__law_sort (l : Bool) (n : Nat) (args : List D) : go l (n + 1) 30 args = bodyM (cl l n) d__law_sort.df args := go_step l n 30 d__law_sort rfl args
theorem st__law_fails (l : Bool) (n : Nat) (args : List D) : go l (n + 1) 32 args = bodyM (cl l n) d__law_fails.df args := go_step l n 32 d__law_fails rfl args
theorem st_are_wholes (l : Bool) (n : Nat) (args : List D) : go l (n + 1) 33 args = bodyM (cl l n) d_are_wholes.df args := go_step l n 33 d_are_wholes rfl args
theorem st_is_whole (l : Bool) (n : Nat) (args : List D) : go l (n + 1) 36 args = bodyM (cl l n) d_is_whole.df args := go_step l n 36 d_is_whole rfl args
theorem st_next_row (l : Bool) (n : Nat) (args : List D) : go l (n + 1) 38 args = bodyM (cl l n) d_next_row.df args := go_step l n 38 d_next_row rfl args
end Kx
set_option Elab.async false
set_option linter.all false
set_option maxRecDepth 100000
set_option maxHeartbeats 4000000
namespace Kx
open PySem PySem.Spec PyProof.Rows L2 Co
@[simp] theorem cl_c (l : Bool) (n : Nat) : (cl l n).c = go l n := nr rfl
@[simp] theorem cl_cls (l : Bool) (n : Nat) : (cl l n).cls = clsOf (kOf KT) (subOf sub) := nr rfl
@[simp] theorem cl_fn (l : Bool) (n : Nat) (g : Nat) : (cl l n).fn g = (Pd (pOf DT) g).isSome := nr rfl
theorem divOk_of {g : Int} (h : g ≠ 0) (h2 : g.natAbs.log2 < 9000) : divOk g = true := by
  unfold divOk; simp [h, h2]
theorem mulOk_r (i j : Int) (h : j.natAbs < 2 ^ 64) : mulOk i j = true := by unfold mulOk; simp [h]
theorem mulOk_l (i j : Int) (h : i.natAbs < 2 ^ 64) : mulOk i j = true := by unfold mulOk; simp [h]
theorem go_roll (l : Bool) (n : Nat) (m x y : Int) (hm : 0 < m) (hl : m.natAbs.log2 < 9000) : ∃ r x' y', 0 ≤ r ∧ r < m ∧ go l (n + 1) 5 [.cup, .int m] (some (x, y)) = some (.ok (.int r), some (x', y')) := by
  rw [st__law_roll, bodyM_eq _ _ _ rfl]
  have hd : divOk m = true := divOk_of (by omega) hl
  have hm0 : m ≠ 0 := by omega
  have h11 : divOk 11 = true := by decide +kernel
  have h83 : ∀ i, mulOk i 83 = true := fun i => mulOk_r i 83 (by decide)
  by_cases hx : 0 < x
  · refine ⟨x.fmod m, x.fdiv m, y, Int.fmod_nonneg_of_pos _ hm, Int.fmod_lt_of_pos _ hm, ?_⟩
    simp [d__law_roll, b__law_roll, Dd.df, enter, hx, hm0, hd, bind_ite, pure_s]
  · refine ⟨(((y * 83 + 1427).fmod 99971).fdiv 11).fmod m, x, (y * 83 + 1427).fmod 99971, Int.fmod_nonneg_of_pos _ hm, Int.fmod_lt_of_pos _ hm, ?_⟩
    simp [d__law_roll, b__law_roll, Dd.df, enter, hx, hm0, h11, h83, bind_ite, pure_s]
theorem log_small {m : Int} (h0 : 0 < m) (h : m < 1000000) : m.natAbs.log2 < 9000 := by
  have h2 : m.natAbs < 2 ^ 20 := by omega
  have h3 := (Nat.log2_lt (by omega)).mpr h2
  omega
theorem atI_of {α : Type} (ds : List α) (r : Int) (h0 : 0 ≤ r) (h1 : r < ds.length) : atI ds r = ds[r.toNat]? := by
  unfold atI ixN
  rw [if_pos h0, if_pos h1]
  rfl
theorem go_some (l : Bool) (n : Nat) (ds : List D) (x y : Int) (hn : ds ≠ []) (hl : ds.length < 1000) : ∃ d x' y', d ∈ ds ∧ go l (n + 2) 3 [.cup, .lst ds] (some (x, y)) = some (.ok d, some (x', y')) := by
  have hp : 0 < ds.length := List.length_pos_iff.mpr hn
  obtain ⟨r, x', y', h0, h1, hr⟩ := go_roll l n (ds.length : Int) x y (by omega) (log_small (by omega) (by omega))
  have hlt : r.toNat < ds.length := by omega
  refine ⟨ds[r.toNat], x', y', List.getElem_mem _, ?_⟩
  rw [st__law_some, bodyM_eq _ _ _ rfl]
  simp [d__law_some, b__law_some, Dd.df, enter]
  rw [bind_s hr]
  simp [atI_of ds r h0 h1, List.getElem?_eq_getElem hlt, pure_s]
def srtN : D → Int
  | .non => 0
  | .bl _ => 1
  | .int _ => 2
  | .str _ => 3
  | .tup _ => 4
  | .lst _ => 5
  | _ => 6
theorem go_sort (l : Bool) (n : Nat) (d : D) (h : d.pl = true) : go l (n + 1) 30 [d] = M.pure (.int (srtN d)) := by
  cases d <;> first | rfl | cases h
mutual
def li : D → Bool
  | .non => true
  | .bl _ => true
  | .int _ => true
  | .tup l => lis l && decide (l.length ≤ 1000000)
  | .lst l => lis l && decide (l.length ≤ 1000000)
  | _ => false
def lis : List D → Bool
  | [] => true
  | d :: ds => li d && lis ds
end
mutual
def dep : D → Nat
  | .tup l => deps l + 1
  | .lst l => deps l + 1
  | _ => 0
def deps : List D → Nat
  | [] => 0
  | d :: ds => max (dep d) (deps ds)
end
theorem lis_mem : ∀ {l : List D}, lis l = true → ∀ d ∈ l, li d = true
  | [], _, d, h => by cases h
  | x :: l, hp, d, h => by
    rw [lis, Bool.and_eq_true_iff] at hp
    rcases List.mem_cons.mp h with rfl | h
    · exact hp.1
    · exact lis_mem hp.2 d h
theorem lis_of : ∀ {l : List D}, (∀ d ∈ l, li d = true) → lis l = true
  | [], _ => rfl
  | x :: l, h => by
    rw [lis, h x (by simp), lis_of fun d hd => h d (by simp [hd])]
    rfl
theorem deps_mem : ∀ {l : List D} {m : Nat}, deps l ≤ m → ∀ d ∈ l, dep d ≤ m
  | [], _, _, d, h => by cases h
  | x :: l, m, hp, d, h => by
    rw [deps] at hp
    rcases List.mem_cons.mp h with rfl | h
    · omega
    · exact deps_mem (by omega) d h
theorem deps_of : ∀ {l : List D} {m : Nat}, (∀ d ∈ l, dep d ≤ m) → deps l ≤ m
  | [], _, _ => Nat.zero_le _
  | x :: l, m, h => by
    rw [deps]
    have h1 := h x (by simp)
    have h2 := deps_of (l := l) (m := m) fun d hd => h d (by simp [hd])
    omega
def nsm : D → Bool := fun d => match d with
  | .tup [x, y] => !sm x y
  | _ => false
theorem zip_nsm : ∀ as bs : List D, as.length = bs.length → decide (((zipD as bs).filter nsm).map (fun _ => (1 : Int)) = []) = sms as bs
  | [], [], _ => rfl
  | [], _ :: _, h => by cases h
  | _ :: _, [], h => by cases h
  | a :: as, b :: bs, h => by
    have ih := zip_nsm as bs (by simpa using h)
    show decide (((D.tup [a, b] :: zipD as bs).filter nsm).map (fun _ => (1 : Int)) = []) = (sm a b && sms as bs)
    cases q : sm a b with
    | true =>
      rw [List.filter_cons_of_neg (by simp [nsm, q])]
      simpa using ih
    | false =>
      rw [List.filter_cons_of_pos (by simp [nsm, q])]
      simp
theorem zipD_mem : ∀ {as bs : List D} {d : D}, d ∈ zipD as bs → ∃ x y, d = .tup [x, y] ∧ x ∈ as ∧ y ∈ bs
  | a :: as, b :: bs, d, h => by
    have h : d ∈ D.tup [a, b] :: zipD as bs := h
    rcases List.mem_cons.mp h with rfl | h
    · exact ⟨a, b, rfl, by simp, by simp⟩
    · obtain ⟨x, y, e, h1, h2⟩ := zipD_mem h
      exact ⟨x, y, e, by simp [h1], by simp [h2]⟩
  | [], [], d, h => by cases h
  | [], _ :: _, d, h => by cases h
  | _ :: _, [], d, h => by cases h
theorem zipD_len : ∀ as bs : List D, (zipD as bs).length ≤ as.length
  | a :: as, b :: bs => by
    have := zipD_len as bs
    show (zipD as bs).length + 1 ≤ as.length + 1
    omega
  | [], [] => Nat.le_refl _
  | [], _ :: _ => Nat.le_refl _
  | _ :: _, [] => Nat.zero_le _
@[simp] theorem in_0 : cmpD .In (.int 0) (.tup [.int 4, .int 5]) = some false := nr rfl
@[simp] theorem in_1 : cmpD .In (.int 1) (.tup [.int 4, .int 5]) = some false := nr rfl
@[simp] theorem in_2 : cmpD .In (.int 2) (.tup [.int 4, .int 5]) = some false := nr rfl
@[simp] theorem in_4 : cmpD .In (.int 4) (.tup [.int 4, .int 5]) = some true := nr rfl
@[simp] theorem in_5 : cmpD .In (.int 5) (.tup [.int 4, .int 5]) = some true := nr rfl
@[simp] theorem size_0 : Co.sizeOk 0 = true := nr rfl
@[simp] theorem size_1 : Co.sizeOk 1 = true := nr rfl
@[simp] theorem size_2 : Co.sizeOk 2 = true := nr rfl
@[simp] theorem size_3 : Co.sizeOk 3 = true := nr rfl
@[simp] theorem size_6 : Co.sizeOk 6 = true := nr rfl
@[simp] theorem eq_nn : D.eq .non .non = some true := nr rfl
@[simp] theorem eq_bb (a b : Bool) : D.eq (.bl a) (.bl b) = some (decide (a = b)) := by cases a <;> cases b <;> rfl
theorem eq_ones (L : List D) : D.eq (.lst (L.map fun _ => D.int 1)) (.lst []) = some (decide (L.map (fun _ => (1 : Int)) = [])) := by
  have := eq_lint (L.map fun _ => (1 : Int)) []
  rw [List.map_map] at this
  exact this
theorem like_other (l : Bool) (n : Nat) (a b : D) (ha : a.pl = true) (hb : b.pl = true) (h : srtN a ≠ srtN b) : go l (n + 2) 11 [a, b] = M.pure (.bl false) := by
  rw [st__law_like, bodyM_eq _ _ _ rfl]
  simp [d__law_like, b__law_like, b__law_like_e0, Dd.df, enter, go_sort, ha, hb, h]
theorem srt_sm (a b : D) (ha : a.pl = true) (hb : b.pl = true) (h : srtN a ≠ srtN b) : sm a b = false := by
  cases a <;> cases b <;> simp_all [sm, srtN, D.pl]
mutual
theorem pl_li : ∀ d : D, li d = true → d.pl = true
  | .non, _ => rfl
  | .bl _, _ => rfl
  | .int _, _ => rfl
  | .tup l, h => by rw [D.pl]; exact pls_lis l (by rw [li, Bool.and_eq_true_iff] at h; exact h.1)
  | .lst l, h => by rw [D.pl]; exact pls_lis l (by rw [li, Bool.and_eq_true_iff] at h; exact h.1)
  | .str _, h => by simp [li] at h
  | .fn _, h => by simp [li] at h
  | .cup, h => by simp [li] at h
  | .thk, h => by simp [li] at h
  | .exc _ _, h => by simp [li] at h
  | .scr _, h => by simp [li] at h
theorem pls_lis : ∀ l : List D, lis l = true → D.pls l = true
  | [], _ => rfl
  | d :: l, h => by
    rw [lis, Bool.and_eq_true_iff] at h
    rw [D.pls, pl_li d h.1, pls_lis l h.2]; rfl
end
theorem like_seq (l : Bool) (n : Nat) (as bs : List D) (h : ∀ x ∈ as, ∀ y ∈ bs, go l (n + 1) 11 [x, y] = M.pure (.bl (sm x y))) (hl : bs.length ≤ 1000000) (t : Bool) :
    go l (n + 2) 11 (if t then [.tup as, .tup bs] else [.lst as, .lst bs]) = M.pure (.bl (sms as bs)) := by
  have key : ∀ {env : En} {tg : D → Option En} {test elt : En → M D} , (∀ x ∈ as, ∀ y ∈ bs, ∃ e, tg (.tup [x, y]) = some e ∧ test e = M.pure (.bl (!sm x y)) ∧ elt e = M.pure (.int 1)) → as.length = bs.length → compL tg test elt (zipD as bs) [] = M.pure (.lst (((zipD as bs).filter nsm).map fun _ => D.int 1)) := fun {env tg test elt} hk hn => by
    have := compL_pure (tg := tg) (test := test) (elt := elt) nsm (fun _ => D.int 1) (zipD as bs) [] (fun d hd => by
      obtain ⟨x, y, rfl, hx, hy⟩ := zipD_mem hd
      obtain ⟨e, a, b, c⟩ := hk x hx y hy
      exact ⟨e, a, b, fun _ => c⟩) (by have := zipD_len as bs; simp; omega)
    simpa using this
  have nl : as.length ≠ bs.length → sms as bs = false := fun z => by
    cases q : sms as bs with
    | false => rfl
    | true => exact absurd (sms_len as bs q) z
  have e45 : ∀ k : Int, k = 4 ∨ k = 5 → cmpD .In (.int k) (.tup [.int 4, .int 5]) = some true := fun k hk => by rcases hk with rfl | rfl <;> rfl
  rw [st__law_like, bodyM_eq _ _ _ (by cases t <;> rfl)]
  have srt : ∀ m, go l (m + 1) 30 [.tup as] = M.pure (.int 4) ∧ go l (m + 1) 30 [.tup bs] = M.pure (.int 4) ∧ go l (m + 1) 30 [.lst as] = M.pure (.int 5) ∧ go l (m + 1) 30 [.lst bs] = M.pure (.int 5) := fun m => ⟨rfl, rfl, rfl, rfl⟩
  have s1 := (srt n).1
  have s2 := (srt n).2.1
  have s3 := (srt n).2.2.1
  have s4 := (srt n).2.2.2
  cases t with
  | true =>
    simp [d__law_like, b__law_like, b__law_like_e0, Dd.df, enter, s1, s2]
    by_cases hn : as.length = bs.length
    · have hn' : ((as.length : Nat) : Int) = ((bs.length : Nat) : Int) := by rw [hn]
      rw [key (env := []) (fun x hx y hy => ⟨_, rfl, by show M.bind (go l (n + 1) 11 [x, y]) notD = _; rw [h x hx y hy]; rfl, rfl⟩) hn]
      have eqz : D.eq (.lst (((zipD as bs).filter nsm).map fun _ => D.int 1)) (.lst []) = some (sms as bs) := by rw [eq_ones, zip_nsm as bs hn]
      simp [hn, eqz]
    · have hn' : ¬ ((as.length : Nat) : Int) = ((bs.length : Nat) : Int) := by omega
      simp [hn', nl hn]
  | false =>
    simp [d__law_like, b__law_like, b__law_like_e0, Dd.df, enter, s3, s4]
    by_cases hn : as.length = bs.length
    · rw [key (env := []) (fun x hx y hy => ⟨_, rfl, by show M.bind (go l (n + 1) 11 [x, y]) notD = _; rw [h x hx y hy]; rfl, rfl⟩) hn]
      have eqz : D.eq (.lst (((zipD as bs).filter nsm).map fun _ => D.int 1)) (.lst []) = some (sms as bs) := by rw [eq_ones, zip_nsm as bs hn]
      simp [hn, eqz]
    · have hn' : ¬ ((as.length : Nat) : Int) = ((bs.length : Nat) : Int) := by omega
      simp [hn', nl hn]
theorem like_sm (l : Bool) : ∀ (m : Nat) (b : D), dep b ≤ m → li b = true → ∀ a, a.pl = true → ∀ n, go l (n + m + 2) 11 [a, b] = M.pure (.bl (sm a b)) := by
  intro m
  induction m with
  | zero =>
    intro b hd hb a ha n
    by_cases h : srtN a = srtN b
    · cases b with
      | non =>
        cases a with
        | non => rfl
        | _ => first | cases h | cases ha
      | bl y =>
        cases a with
        | bl x =>
          show go l (n + 2) 11 [.bl x, .bl y] = _
          have s1 : ∀ z, go l (n + 1) 30 [.bl z] = M.pure (.int 1) := fun _ => rfl
          rw [st__law_like, bodyM_eq _ _ _ rfl]
          simp [d__law_like, b__law_like, b__law_like_e0, Dd.df, enter, s1, sm]
        | _ => first | cases h | cases ha
      | int y =>
        cases a with
        | int x =>
          show go l (n + 2) 11 [.int x, .int y] = _
          have s1 : ∀ z, go l (n + 1) 30 [.int z] = M.pure (.int 2) := fun _ => rfl
          rw [st__law_like, bodyM_eq _ _ _ rfl]
          simp [d__law_like, b__law_like, b__law_like_e0, Dd.df, enter, s1, sm]
        | _ => first | cases h | cases ha
      | tup _ => rw [dep] at hd; omega
      | lst _ => rw [dep] at hd; omega
      | _ => simp [li] at hb
    · rw [srt_sm a b ha (pl_li b hb) h]
      exact like_other l _ a b ha (pl_li b hb) h
  | succ m ih =>
    intro b hd hb a ha n
    by_cases hz : dep b ≤ m
    · have := ih b hz hb a ha (n + 1)
      rw [show n + 1 + m = n + (m + 1) by omega] at this
      exact this
    · by_cases h : srtN a = srtN b
      · cases b with
        | tup bs =>
          cases a with
          | tup as =>
            rw [li, Bool.and_eq_true_iff] at hb
            rw [dep] at hd
            have := like_seq l (n + (m + 1)) as bs (fun x hx y hy => by
              have := ih y (deps_mem (show deps bs ≤ m by omega) y hy) (lis_mem hb.1 y hy) x (pls_mem (by rw [D.pl] at ha; exact ha) x hx) n
              exact this) (of_decide_eq_true hb.2) true
            rw [sm]
            exact this
          | _ => first | cases h | cases ha
        | lst bs =>
          cases a with
          | lst as =>
            rw [li, Bool.and_eq_true_iff] at hb
            rw [dep] at hd
            have := like_seq l (n + (m + 1)) as bs (fun x hx y hy => by
              have := ih y (deps_mem (show deps bs ≤ m by omega) y hy) (lis_mem hb.1 y hy) x (pls_mem (by rw [D.pl] at ha; exact ha) x hx) n
              exact this) (of_decide_eq_true hb.2) false
            rw [sm]
            exact this
          | _ => first | cases h | cases ha
        | non => exact absurd (Nat.zero_le _) hz
        | bl _ => exact absurd (Nat.zero_le _) hz
        | int _ => exact absurd (Nat.zero_le _) hz
        | _ => simp [li] at hb
      · rw [srt_sm a b ha (pl_li b hb) h]
        exact like_other l _ a b ha (pl_li b hb) h
end Kx
set_option Elab.async false
set_option linter.all false
set_option maxRecDepth 100000
set_option maxHeartbeats 4000000
namespace Kx
open PySem PySem.Spec PyProof.Rows L2 Co
structure Ru where
  a : Int
  b : Int
  c : Int
  d : Int
  e : Int
  f : Int
structure Ru.ok (R : Ru) : Prop where
  a : -10 ≤ R.a ∧ R.a ≤ 10
  b : -10 ≤ R.b ∧ R.b ≤ 10
  c : -10 ≤ R.c ∧ R.c ≤ 10
  d : -10 ≤ R.d ∧ R.d ≤ 10
  e : -10 ≤ R.e ∧ R.e ≤ 10
  f : -10 ≤ R.f ∧ R.f ≤ 10
def Ru.t (R : Ru) : D := tI [R.a, R.b, R.c, R.d, R.e, R.f]
def Ru.p (R : Ru) (n k : Int) : Int := R.a + R.b * n + R.c * k
def Ru.q (R : Ru) (n k : Int) : Int := R.d + R.e * n + R.f * k
def at0 (row : List Int) (k : Nat) : Int := row.getD k 0
def bef (row : List Int) (k : Nat) : Int := if 0 < k then row.getD (k - 1) 0 else 0
def cell (R : Ru) (n : Nat) (row : List Int) (k : Nat) : Int := R.p n k * at0 row k + R.q n k * bef row k
def nextRow (R : Ru) (n : Nat) (row : List Int) : List Int := (List.range (n + 1)).map (cell R n row)
def rowN (R : Ru) : Nat → List Int
  | 0 => [1]
  | n + 1 => nextRow R (n + 1) (rowN R n)
def rowsN (R : Ru) (m : Nat) : List (List Int) := (List.range m).map (rowN R)
theorem rowN_len (R : Ru) : ∀ n, (rowN R n).length = n + 1
  | 0 => rfl
  | n + 1 => by show (nextRow R (n + 1) (rowN R n)).length = _; simp [nextRow]
theorem small64 {a n : Int} (h : -10 ≤ a ∧ a ≤ 10) : a.natAbs < 2 ^ 64 := by omega
theorem prodB {a n : Int} {m : Int} (h : -10 ≤ a ∧ a ≤ 10) (h0 : 0 ≤ n) (h1 : n ≤ m) : -10 * m ≤ a * n ∧ a * n ≤ 10 * m := by
  obtain ⟨h2, h3⟩ := h
  have e1 : a * n ≤ 10 * n := Int.mul_le_mul_of_nonneg_right h3 h0
  have e2 : -10 * n ≤ a * n := Int.mul_le_mul_of_nonneg_right h2 h0
  omega
theorem Ru.pB {R : Ru} (h : R.ok) {n k : Nat} (hn : n ≤ 100) (hk : k ≤ 100) : (R.p n k).natAbs < 2 ^ 64 := by
  have h1 := prodB (m := 100) h.b (show (0 : Int) ≤ n by omega) (by omega)
  have h2 := prodB (m := 100) h.c (show (0 : Int) ≤ k by omega) (by omega)
  have h3 := h.a
  unfold Ru.p
  omega
theorem Ru.qB {R : Ru} (h : R.ok) {n k : Nat} (hn : n ≤ 100) (hk : k ≤ 100) : (R.q n k).natAbs < 2 ^ 64 := by
  have h1 := prodB (m := 100) h.e (show (0 : Int) ≤ n by omega) (by omega)
  have h2 := prodB (m := 100) h.f (show (0 : Int) ≤ k by omega) (by omega)
  have h3 := h.d
  unfold Ru.q
  omega
def prevK (i : Nat) : Sl := match i with
  | 0 => .un
  | i + 1 => .val (.int (i : Nat))
def prevL (row : List Int) (i : Nat) : Sl := match i with
  | 0 => .un
  | i + 1 => .val (.int (bef row i))
def enN (R : Ru) (n : Nat) (row : List Int) (i : Nat) : En := [.val R.t, .val (.int n), .val (tI row), .val (.int R.a), .val (.int R.b), .val (.int R.c), .val (.int R.d), .val (.int R.e), .val (.int R.f), .val (.lst (row.map .int ++ [.int 0])), .own (((List.range i).map (cell R n row)).map .int), prevK i, prevL row i]
theorem above (row : List Int) (n k : Nat) (hl : row.length = n) (h : k ≤ n) : atI (row.map D.int ++ [.int 0]) (k : Int) = some (.int (at0 row k)) := by
  refine atI_n ?_
  unfold at0
  by_cases hk : k < n
  · rw [List.getElem?_append_left (by simpa [hl] using hk), List.getElem?_map, List.getD_eq_getElem?_getD, List.getElem?_eq_getElem (by omega)]
    rfl
  · have : k = row.length := by omega
    subst this
    rw [List.getElem?_append_right (by simp), List.getD_eq_getElem?_getD, List.getElem?_eq_none (Nat.le_refl _)]
    simp
theorem go_next (l : Bool) (m : Nat) (R : Ru) (h : R.ok) (n : Nat) (row : List Int) (hl : row.length = n) (hn : n ≤ 60) : go l (m + 1) 38 [R.t, .int n, tI row] = M.pure (tI (nextRow R n row)) := by
  have hsz : Co.sizeOk (n + 1) = true := sizeOk_le (by omega)
  have i64 : Co.int64 ((n : Int) + 1) = true := i64_of (by omega) (by omega)
  have m1 : ∀ x, mulOk R.b x = true := fun x => mulOk_l _ _ (small64 (n := 0) h.b)
  have m2 : ∀ x, mulOk R.c x = true := fun x => mulOk_l _ _ (small64 (n := 0) h.c)
  have m3 : ∀ x, mulOk R.e x = true := fun x => mulOk_l _ _ (small64 (n := 0) h.e)
  have m4 : ∀ x, mulOk R.f x = true := fun x => mulOk_l _ _ (small64 (n := 0) h.f)
  have run : ∀ p, forL (tgt (.nm 11 p)) (exs (cl l m) b_next_row_b0) (rangeD 0 (n + 1)) (enN R n row 0) = M.pure (.nx, enN R n row (n + 1)) := fun p => by
    have := forL_run (tg := tgt (.nm 11 p)) (body := exs (cl l m) b_next_row_b0) (rangeD 0 (n + 1)) (enN R n row) (fun i d hd => ?_)
    · rw [rangeD_len] at this; exact this
    · obtain ⟨hi, rfl⟩ := rangeD_get hd
      refine ⟨_, rfl, ?_⟩
      have m5 : ∀ x, mulOk (R.a + R.b * (n : Int) + R.c * (i : Int)) x = true := fun x => mulOk_l _ _ (R.pB h (n := n) (k := i) (by omega) (by omega))
      have m6 : ∀ x, mulOk (R.d + R.e * (n : Int) + R.f * (i : Int)) x = true := fun x => mulOk_l _ _ (R.qB h (n := n) (k := i) (by omega) (by omega))
      have s1 : Co.sizeOk (i + 1) = true := sizeOk_le (by omega)
      have a1 := above row n i hl (by omega)
      have ec : cell R n row i = (R.a + R.b * (n : Int) + R.c * (i : Int)) * at0 row i + (R.d + R.e * (n : Int) + R.f * (i : Int)) * bef row i := rfl
      have er : (List.range (i + 1)).map (cell R n row) = (List.range i).map (cell R n row) ++ [cell R n row i] := by rw [List.range_succ, List.map_append]; rfl
      cases i with
      | zero =>
        simp at m5 m6 a1
        simp [b_next_row_b0, enN, m1, m2, m3, m4, m5, m6, s1, a1, prevK, prevL, ec, bef]
      | succ j =>
        have a2 := above row n j hl (by omega)
        have e1 : ((j : Int) + 1 - 1) = (j : Int) := by omega
        have e0 : (0 : Int) < (j : Int) + 1 := by omega
        have eb : bef row (j + 1) = at0 row j := by simp [bef, at0]
        simp at m5 m6 a1
        simp [b_next_row_b0, enN, m1, m2, m3, m4, m5, m6, s1, a1, a2, prevK, prevL, er, ec, eb, e1, e0]
  rw [st_next_row, bodyM_eq _ _ _ rfl]
  simp [d_next_row, b_next_row, Dd.df, enter, Ru.t, tI, hl, hsz, i64]
  refine (congrArg (fun z => M.bind z _) (run _)).trans ?_
  simp [enN, nextRow]
end Kx
set_option Elab.async false
set_option linter.all false
set_option maxRecDepth 100000
set_option maxHeartbeats 4000000
namespace Kx
open PySem PySem.Spec PyProof.Rows L2 Co
def rowsD (R : Ru) (m : Nat) : List D := (rowsN R m).map tI
theorem rowsD_len (R : Ru) (m : Nat) : (rowsD R m).length = m := by simp [rowsD, rowsN]
theorem rowsD_succ (R : Ru) (m : Nat) : rowsD R (m + 1) = rowsD R m ++ [tI (rowN R m)] := by simp [rowsD, rowsN, List.range_succ]
theorem rowsD_last (R : Ru) (m : Nat) : atI (rowsD R (m + 1)) (-1) = some (tI (rowN R m)) := atI_last (by rw [rowsD_succ]; simp)
theorem rowsD_take (R : Ru) (m k : Nat) (h : k ≤ m) : (rowsD R m).take k = rowsD R k := by
  unfold rowsD rowsN
  rw [← List.map_take, ← List.map_take, List.take_range, Nat.min_eq_left h]
@[simp] theorem cl_wf (l : Bool) (n : Nat) : (cl l n).wf = 4000 := rfl
theorem go_rows_in (l : Bool) (m : Nat) (R : Ru) (h : R.ok) (many : Nat) (h0 : 1 ≤ many) (h1 : many ≤ 50) : go l (m + 2) 24 [R.t, .int many] = M.pure (.lst (rowsD R many)) := by
  have run : ∀ (p1 p2 p3 p4 p5 p6 : Pos), whlL (ev (cl l (m + 1)) (.bor 2 (.cmp .Lt (.blt .len 16 (.cons (.v 2 p1) .nil) p2 p3) (.v 1 p4) p5))) (exs (cl l (m + 1)) b_rows_in_b0) 4000 [.val R.t, .val (.int many), .own (rowsD R 1)] = M.pure (.nx, [.val R.t, .val (.int many), .own (rowsD R many)]) := fun p1 p2 p3 p4 p5 p6 => by
    have := whl_run (test := ev (cl l (m + 1)) (.bor 2 (.cmp .Lt (.blt .len 16 (.cons (.v 2 p1) .nil) p2 p3) (.v 1 p4) p5))) (body := exs (cl l (m + 1)) b_rows_in_b0) (many - 1) (fun i => [.val R.t, .val (.int many), .own (rowsD R (i + 1))]) 4000 (by omega) (fun i hi => ⟨?_, ?_⟩) ?_
    · rw [show many - 1 + 1 = many by omega] at this
      exact this
    · have : i + 1 < many := by omega
      simp [E.isO, rowsD_len, this]
    · have s1 : Co.sizeOk (i + 1 + 1) = true := sizeOk_le (by omega)
      have e1 := go_next l m R h (i + 1) (rowN R i) (rowN_len R i) (by omega)
      simp at e1
      have e2 : flatJ (tI (nextRow R (i + 1) (rowN R i))) = M.pure (tI (nextRow R (i + 1) (rowN R i))) := flatJ_of (flat_tI _)
      have e3 : rowsD R (i + 1 + 1) = rowsD R (i + 1) ++ [tI (nextRow R (i + 1) (rowN R i))] := rowsD_succ R (i + 1)
      simp [b_rows_in_b0, E.isO, rowsD_len, rowsD_last, s1, e1, e2, e3]
    · have : ¬ (many - 1 + 1 < many) := by omega
      simp [E.isO, rowsD_len, this]
  rw [st_rows_in, bodyM_eq _ _ _ rfl]
  have hc : cutD (rowsD R many) none (some (many : Int)) = rowsD R many := by
    rw [cut_to _ _ (by rw [rowsD_len]; exact Nat.le_refl _), List.take_of_length_le (by rw [rowsD_len]; exact Nat.le_refl _)]
  simp [d_rows_in, b_rows_in, Dd.df, enter]
  refine (congrArg (fun z => M.bind z _) (run _ _ _ _ _ ⟨0, 0, 0, 0⟩)).trans ?_
  simp [slD, hc]
def key (i j : Int) : List L2.Key := [.inl i, .inl j]
def Known (R : Ru) (n k : Nat) (kvs : List (List L2.Key × D)) : Prop := (∀ i j : Nat, ((i < n ∧ j ≤ i) ∨ (i = n ∧ j < k)) → dVal kvs (key i j) = some (.int (at0 (rowN R i) j))) ∧
  (∀ i j : Int, (∀ i' j' : Nat, i = i' → j = j' → ¬ ((i' < n ∧ j' ≤ i') ∨ (i' = n ∧ j' < k))) → dVal kvs (key i j) = none) ∧ kvs.length ≤ 100 * n + k
theorem key_eq {i j i' j' : Int} : key i j = key i' j' ↔ i = i' ∧ j = j' := by
  unfold key
  constructor
  · intro h
    injection h with h1 h2
    injection h1 with h1
    injection h2 with h2 _
    injection h2 with h2
    exact ⟨h1, h2⟩
  · rintro ⟨rfl, rfl⟩; rfl
theorem known_put {R : Ru} {n k : Nat} {kvs : List (List L2.Key × D)} (h : Known R n k kvs) : Known R n (k + 1) (dPut kvs (key n k) (.int (at0 (rowN R n) k))) := by
  obtain ⟨h1, h2, h3⟩ := h
  refine ⟨fun i j hij => ?_, fun i j hij => ?_, by have := dPut_len kvs (key n k) (.int (at0 (rowN R n) k)); omega⟩
  · rw [dVal_put]
    by_cases e : key n k = key i j
    · obtain ⟨e1, e2⟩ := key_eq.mp e
      have e1 : n = i := by omega
      have e2 : k = j := by omega
      subst e1 e2
      rw [if_pos rfl]
    · rw [if_neg e]
      refine h1 i j ?_
      rcases hij with z | ⟨z1, z2⟩
      · exact .inl z
      · refine .inr ⟨z1, ?_⟩
        have : j ≠ k := fun z => e (key_eq.mpr ⟨by omega, by omega⟩)
        omega
  · rw [dVal_put, if_neg (fun e => by
      obtain ⟨e1, e2⟩ := key_eq.mp e
      exact hij n k e1.symm e2.symm (.inr ⟨rfl, by omega⟩))]
    exact h2 i j fun i' j' e1 e2 z => hij i' j' e1 e2 (by omega)
theorem known_next {R : Ru} {n : Nat} {kvs : List (List L2.Key × D)} (hn : n < 50) (h : Known R n (n + 1) kvs) : Known R (n + 1) 0 kvs := by
  obtain ⟨h1, h2, h3⟩ := h
  refine ⟨fun i j hij => h1 i j (by omega), fun i j hij => h2 i j fun i' j' e1 e2 z => hij i' j' e1 e2 (by omega), by omega⟩
theorem known_at {R : Ru} {n k : Nat} {kvs : List (List L2.Key × D)} (h : Known R (n + 1) k kvs) (hk : k ≤ n + 1) : (dVal kvs (key ((n : Int)) k)).getD (.int 0) = .int (at0 (rowN R n) k) := by
  by_cases e : k ≤ n
  · rw [h.1 n k (.inl ⟨by omega, e⟩)]; rfl
  · rw [h.2.1 n k fun i' j' e1 e2 z => by omega]
    unfold at0
    rw [List.getD_eq_getElem?_getD, List.getElem?_eq_none (by rw [rowN_len]; omega)]
    rfl
theorem known_bef {R : Ru} {n k : Nat} {kvs : List (List L2.Key × D)} (h : Known R (n + 1) k kvs) (hk : k ≤ n + 1) : (dVal kvs (key ((n : Int)) ((k : Int) - 1))).getD (.int 0) = .int (bef (rowN R n) k) := by
  cases k with
  | zero =>
    rw [h.2.1 n _ fun i' j' e1 e2 z => by omega]
    simp [bef]
  | succ j =>
    have e : ((j + 1 : Nat) : Int) - 1 = (j : Int) := by omega
    rw [e, h.1 n j (.inl ⟨by omega, by omega⟩)]
    simp [bef, at0]
def enD (R : Ru) (many : Nat) (kvs : List (List L2.Key × D)) (a b c : Sl) : En := [.val R.t, .val (.int many), .val (.int R.a), .val (.int R.b), .val (.int R.c), .val (.int R.d), .val (.int R.e), .val (.int R.f), .dic kvs, a, b, c]
theorem rows_inner (l : Bool) (m : Nat) (R : Ru) (h : R.ok) (many n : Nat) (hn : n < 49) (s : St2) (kvs : List (List L2.Key × D)) (hk : Known R (n + 1) 0 kvs) (b c : Sl) (p : Pos) :
    ∃ kvs' b' c', Known R (n + 2) 0 kvs' ∧ forL (tgt (.nm 10 p)) (exs (cl l m) b__law_rows_b0) (rangeD 0 (n + 2)) (enD R many kvs (.val (.int ((n + 1 : Nat) : Int))) b c) s = some (.ok (.nx, enD R many kvs' (.val (.int ((n + 1 : Nat) : Int))) b' c'), s) := by
  have m1 : ∀ x, mulOk R.b x = true := fun x => mulOk_l _ _ (small64 (n := 0) h.b)
  have m2 : ∀ x, mulOk R.c x = true := fun x => mulOk_l _ _ (small64 (n := 0) h.c)
  have m3 : ∀ x, mulOk R.e x = true := fun x => mulOk_l _ _ (small64 (n := 0) h.e)
  have m4 : ∀ x, mulOk R.f x = true := fun x => mulOk_l _ _ (small64 (n := 0) h.f)
  obtain ⟨e2, s2, h1, rfl, kvs', b', c', rfl, h2⟩ := forL_inv (tg := tgt (.nm 10 p)) (body := exs (cl l m) b__law_rows_b0) (fun k e s' => s' = s ∧ ∃ kvs b c, e = enD R many kvs (.val (.int ((n + 1 : Nat) : Int))) b c ∧ Known R (n + 1) k kvs) (rangeD 0 (n + 2)) 0 (fun k d hd e s' hi => by
    obtain ⟨rfl, kvs, b, c, rfl, hk⟩ := hi
    obtain ⟨hlt, rfl⟩ := rangeD_get hd
    rw [Nat.zero_add] at hk ⊢
    have m5 : ∀ x, mulOk (R.a + R.b * ((n + 1 : Nat) : Int) + R.c * (k : Int)) x = true := fun x => mulOk_l _ _ (R.pB h (n := n + 1) (k := k) (by omega) (by omega))
    have m6 : ∀ x, mulOk (R.d + R.e * ((n + 1 : Nat) : Int) + R.f * (k : Int)) x = true := fun x => mulOk_l _ _ (R.qB h (n := n + 1) (k := k) (by omega) (by omega))
    have e1 := known_at hk (by omega)
    have e2 := known_bef hk (by omega)
    have l3 := hk.2.2
    have s3 : Co.sizeOk (kvs.length + 1) = true := sizeOk_le (by omega)
    have ec : at0 (rowN R (n + 1)) k = (R.a + R.b * ((n + 1 : Nat) : Int) + R.c * (k : Int)) * at0 (rowN R n) k + (R.d + R.e * ((n + 1 : Nat) : Int) + R.f * (k : Int)) * bef (rowN R n) k := by
      show at0 (nextRow R (n + 1) (rowN R n)) k = _
      unfold at0 nextRow
      rw [List.getD_eq_getElem?_getD, List.getElem?_map, List.getElem?_range (by omega)]
      rfl
    have kp := known_put hk
    rw [ec] at kp
    unfold key at e1 e2 kp
    refine ⟨_, enD R many (dPut kvs [.inl ((n + 1 : Nat) : Int), .inl (k : Int)] (.int ((R.a + R.b * ((n + 1 : Nat) : Int) + R.c * (k : Int)) * at0 (rowN R n) k + (R.d + R.e * ((n + 1 : Nat) : Int) + R.f * (k : Int)) * bef (rowN R n) k))) (.val (.int ((n + 1 : Nat) : Int))) (.val (.int (k : Int))) (.val (.int ((R.a + R.b * ((n + 1 : Nat) : Int) + R.c * (k : Int)) * at0 (rowN R n) k))), s', rfl, ?_, rfl, _, _, _, rfl, kp⟩
    have en : ((n : Int) + 1 - 1) = (n : Int) := by omega
    simp at m5 m6
    simp [b__law_rows_b0, enD, m1, m2, m3, m4, m5, m6, s3, e1, e2, en, pure_s]) (enD R many kvs (.val (.int ((n + 1 : Nat) : Int))) b c) s ⟨rfl, kvs, b, c, rfl, hk⟩
  refine ⟨kvs', b', c', ?_, h1⟩
  rw [rangeD_len] at h2
  exact known_next (by omega) (by simpa using h2)
theorem known_0 (R : Ru) : Known R 1 0 [([.inl 0, .inl 0], .int 1)] := by
  refine known_next (n := 0) (by omega) ⟨fun i j hij => ?_, fun i j hij => ?_, by simp⟩
  · have : i = 0 ∧ j = 0 := by omega
    obtain ⟨rfl, rfl⟩ := this
    rfl
  · have : ¬ (([.inl 0, .inl 0] : List L2.Key) = key i j) := fun e => by
      obtain ⟨e1, e2⟩ := key_eq.mp (show key 0 0 = key i j from e)
      exact hij 0 0 e1.symm e2.symm (.inr ⟨rfl, by omega⟩)
    simp [dVal, this]
theorem rangeD0_map (n : Nat) (f : D → D) : (rangeD 0 n).map f = (List.range n).map fun i => f (.int (i : Nat)) := by
  unfold rangeD
  rw [List.map_map]
  congr 1
  funext i
  simp
theorem at0_all (row : List Int) : (List.range row.length).map (at0 row) = row := by
  apply List.ext_getElem (by simp)
  intro i h1 h2
  simp [at0, List.getD_eq_getElem?_getD, List.getElem?_eq_getElem h2]
theorem go_law_rows (l : Bool) (m : Nat) (R : Ru) (h : R.ok) (many : Nat) (h0 : 1 ≤ many) (h1 : many ≤ 50) : go l (m + 1) 17 [R.t, .int many] = M.pure (.lst (rowsD R many)) := by
  funext s
  have outer : ∀ p, ∃ kvs a b c, Known R many 0 kvs ∧ forL (tgt (.nm 9 p)) (exs (cl l m) b__law_rows_b1) (rangeD 1 (many - 1)) (enD R many [([.inl 0, .inl 0], .int 1)] .un .un .un) s = some (.ok (.nx, enD R many kvs a b c), s) := fun p => by
    obtain ⟨e2, s2, g1, rfl, kvs', a', b', c', rfl, g2⟩ := forL_inv (tg := tgt (.nm 9 p)) (body := exs (cl l m) b__law_rows_b1) (fun k e s' => s' = s ∧ ∃ kvs a b c, e = enD R many kvs a b c ∧ Known R (k + 1) 0 kvs) (rangeD 1 (many - 1)) 0 (fun k d hd e s' hi => by
      obtain ⟨rfl, kvs, a, b, c, rfl, hk⟩ := hi
      obtain ⟨hlt, rfl⟩ := rangeD_get hd
      rw [Nat.zero_add] at hk ⊢
      obtain ⟨kvs', b', c', k1, k2⟩ := rows_inner l m R h many k (by omega) s' kvs hk b c ⟨100, 12, 100, 13⟩
      refine ⟨_, enD R many kvs' (.val (.int ((k + 1 : Nat) : Int))) b' c', s', rfl, ?_, rfl, _, _, _, _, rfl, k1⟩
      have ek : ((1 : Int) + (k : Int)) = ((k + 1 : Nat) : Int) := by omega
      have er : ((k : Int) + 1 + 1).toNat = k + 2 := by omega
      have i64 : Co.int64 ((k : Int) + 1 + 1) = true := i64_of (by omega) (by omega)
      rw [ek]
      show exs (cl l m) b__law_rows_b1 (enD R many kvs (.val (.int ((k + 1 : Nat) : Int))) b c) s' = _
      have eb : exs (cl l m) b__law_rows_b1 (enD R many kvs (.val (.int ((k + 1 : Nat) : Int))) b c) = M.bind (forL (tgt (.nm 10 ⟨100, 12, 100, 13⟩)) (exs (cl l m) b__law_rows_b0) (rangeD 0 (k + 2)) (enD R many kvs (.val (.int ((k + 1 : Nat) : Int))) b c)) (fun r => sq r (exs (cl l m) .nil)) := by
        simp [b__law_rows_b1, enD, i64, er]
      rw [eb, bind_s k2]
      rfl) (enD R many [([.inl 0, .inl 0], .int 1)] .un .un .un) s ⟨rfl, _, _, _, _, rfl, known_0 R⟩
    rw [rangeD_len, Nat.zero_add, show many - 1 + 1 = many by omega] at g2
    exact ⟨_, _, _, _, g2, g1⟩
  obtain ⟨kvs, a, b, c, hk, ho⟩ := outer ⟨99, 8, 99, 9⟩
  rw [st__law_rows, bodyM_eq _ _ _ rfl]
  have i1 : Co.int64 1 = true := rfl
  have i2 : Co.int64 (many : Int) = true := i64_of (by omega) (by omega)
  have er : ((many : Int) - 1).toNat = many - 1 := by omega
  simp [d__law_rows, b__law_rows, b__law_rows_e0, b__law_rows_e1, Dd.df, enter, Ru.t, tI, i1, i2, er]
  refine (bind_s ho).trans ?_
  simp [enD, i2]
  refine (congrFun (compL_map (fun d => match d with
    | .int i => tI (rowN R i.toNat)
    | _ => .non) (rangeD 0 many) (fun d hd => ?_) (by simp; omega)) s).trans ?_
  · obtain ⟨i, hi, rfl⟩ := rangeD_mem hd
    refine ⟨_, rfl, rfl, ?_⟩
    have er : ((i : Int) + 1).toNat = i + 1 := by omega
    have i64 : Co.int64 ((i : Int) + 1) = true := i64_of (by omega) (by omega)
    simp [En.wipe, er, i64]
    rw [compL_map (fun d => match d with
      | .int j => .int (at0 (rowN R i) j.toNat)
      | _ => .non) (rangeD 0 (i + 1)) (fun d hd => ?_) (by simp; omega)]
    · rw [rangeD0_map]
      have := at0_all (rowN R i)
      rw [rowN_len] at this
      have e2 : ((List.range (i + 1)).map fun j => D.int (at0 (rowN R i) j)) = (rowN R i).map .int := by
        conv => rhs; rw [← this, List.map_map]
        rfl
      simp [tI, e2]
    · obtain ⟨j, hj, rfl⟩ := rangeD_mem hd
      refine ⟨_, rfl, rfl, ?_⟩
      have := hk.1 i j (.inl ⟨hi, by omega⟩)
      unfold key at this
      simp [this]
  · rw [rangeD0_map]
    simp [rowsD, rowsN]
    rfl
end Kx
set_option Elab.async false
set_option linter.all false
set_option maxRecDepth 100000
set_option maxHeartbeats 4000000
namespace Kx
open PySem PySem.Spec PyProof.Rows L2 Co
def isT : D → Bool
  | .tup _ => true
  | _ => false
def isI : D → Bool
  | .int _ => true
  | _ => false
@[simp] theorem cls_t (l : List D) : clsOf (kOf KT) (subOf sub) 20 (.tup l) = some true := nr rfl
@[simp] theorem cls_i (i : Int) : clsOf (kOf KT) (subOf sub) 39 (.int i) = some true := nr rfl
@[simp] theorem cls_ib (i : Int) : clsOf (kOf KT) (subOf sub) 40 (.int i) = some false := nr rfl
theorem go_itup_t (l : Bool) (m : Nat) (ds : List D) (lo hi : Int) : go l (m + 1) 26 [.tup ds, .int lo, .int hi] = M.pure (.bl (decide (lo ≤ ds.length) && decide ((ds.length : Int) ≤ hi))) := by
  rw [st_is_tuple_of, bodyM_eq _ _ _ rfl]
  by_cases h : lo ≤ (ds.length : Int) <;> simp [d_is_tuple_of, b_is_tuple_of, Dd.df, enter, h]
theorem go_itup_o (l : Bool) (m : Nat) (d : D) (hd : d.pl = true) (ht : isT d = false) (lo hi : Int) : go l (m + 1) 26 [d, .int lo, .int hi] = M.pure (.bl false) := by
  cases d <;> first | rfl | cases hd | cases ht
theorem go_is_whole (l : Bool) (m : Nat) (a lo hi : Int) (h : lo ≤ a) (h2 : a ≤ hi) : go l (m + 1) 36 [.int a, .int lo, .int hi] = M.pure (.bl true) := by
  rw [st_is_whole, bodyM_eq _ _ _ rfl]
  simp [d_is_whole, b_is_whole, Dd.df, enter, h, h2]
theorem go_need_whole (l : Bool) (m : Nat) (a lo hi : Int) (h : lo ≤ a) (h2 : a ≤ hi) : go l (m + 2) 22 [.int a, .int lo, .int hi] = M.pure .non := by
  rw [st_need_whole, bodyM_eq _ _ _ rfl]
  simp [d_need_whole, b_need_whole, Dd.df, enter, go_is_whole l m a lo hi h h2]
theorem all_true (n : Nat) : D.bools (List.replicate n (.bl true)) = some (List.replicate n true) := by
  induction n with
  | zero => rfl
  | succ n ih => show (D.bools (List.replicate n (.bl true))).map (true :: ·) = _; rw [ih]; rfl
theorem go_are_wholes (l : Bool) (m : Nat) (row : List Int) (lo hi : Int) (h : ∀ a ∈ row, lo ≤ a ∧ a ≤ hi) (hl : row.length ≤ 1000) : go l (m + 2) 33 [tI row, .int row.length, .int lo, .int hi] = M.pure (.bl true) := by
  rw [st_are_wholes, bodyM_eq _ _ _ rfl]
  have e1 := go_itup_t l m (row.map .int) (row.length : Int) (row.length : Int)
  simp at e1
  simp [d_are_wholes, b_are_wholes, b_are_wholes_e0, Dd.df, enter, tI, e1]
  rw [compL_map (fun _ => .bl true) (row.map .int) (fun d hd => ?_) (by simp; omega)]
  · have : (row.map D.int).map (fun _ => D.bl true) = List.replicate row.length (.bl true) := by
      rw [List.map_map]
      exact List.map_const' ..
    rw [this]
    simp [all_true]
  · obtain ⟨a, ha, rfl⟩ := List.mem_map.mp hd
    refine ⟨_, rfl, rfl, ?_⟩
    obtain ⟨h1, h2⟩ := h a ha
    simp [En.wipe, go_is_whole l m a lo hi h1 h2]
theorem go_need_rule (l : Bool) (m : Nat) (R : Ru) (h : R.ok) : go l (m + 3) 21 [R.t] = M.pure .non := by
  have e1 := go_are_wholes l m [R.a, R.b, R.c, R.d, R.e, R.f] (-10) 10 (fun a ha => by
    simp at ha
    obtain ⟨h1, h2, h3, h4, h5, h6⟩ := h
    rcases ha with rfl | rfl | rfl | rfl | rfl | rfl <;> assumption) (by simp)
  simp at e1
  rw [st_need_rule, bodyM_eq _ _ _ rfl]
  simp [d_need_rule, b_need_rule, Dd.df, enter, Ru.t, e1]
theorem go_triangle (l : Bool) (m : Nat) (R : Ru) (h : R.ok) (many : Nat) (h0 : 1 ≤ many) (h1 : many ≤ 30) : go l (m + 4) 7 [R.t, .int many] = M.pure (.tup (rowsD R many)) := by
  rw [st_triangle, bodyM_eq _ _ _ rfl]
  have e2 := go_need_whole l (m + 1) many 1 30 (by omega) (by omega)
  simp [d_triangle, b_triangle, Dd.df, enter, go_need_rule l m R h, e2, go_rows_in l (m + 1) R h many h0 (by omega)]
theorem go_row_sums (l : Bool) (m : Nat) (R : Ru) (h : R.ok) (many : Nat) (h0 : 1 ≤ many) (h1 : many ≤ 30) : go l (m + 4) 9 [R.t, .int many] = M.pure (tI ((rowsN R many).map List.sum)) := by
  rw [st_row_sums, bodyM_eq _ _ _ rfl]
  have e2 := go_need_whole l (m + 1) many 1 30 (by omega) (by omega)
  simp [d_row_sums, b_row_sums, b_row_sums_e0, Dd.df, enter, go_need_rule l m R h, e2, go_rows_in l (m + 1) R h many h0 (by omega)]
  rw [compL_map (fun d => match d with
    | .tup l => .int (((D.ints l).getD []).sum)
    | _ => .non) (rowsD R many) (fun d hd => ?_) (by rw [rowsD_len]; omega)]
  · simp [rowsD, tI]
    have : ((fun d : D => match d with
      | .tup l => D.int ((D.ints l).getD []).sum
      | _ => D.non) ∘ tI) = (D.int ∘ List.sum) := by
      funext r
      simp [tI, Co.ints_map]
    rw [this]
  · unfold rowsD at hd
    obtain ⟨r, hr, rfl⟩ := List.mem_map.mp hd
    refine ⟨_, rfl, rfl, ?_⟩
    simp [En.wipe, tI, Co.ints_map]
theorem go_part_at (l : Bool) (m : Nat) (R : Ru) (h : R.ok) (n k : Nat) (h1 : n ≤ 40) (h2 : k ≤ n) : go l (m + 4) 8 [R.t, .int n, .int k] = M.pure (.int (at0 (rowN R n) k)) := by
  rw [st_part_at, bodyM_eq _ _ _ rfl]
  have e2 := go_need_whole l (m + 1) n 0 40 (by omega) (by omega)
  have e3 := go_need_whole l (m + 1) k 0 n (by omega) (by omega)
  have e4 := go_rows_in l (m + 1) R h (n + 1) (by omega) (by omega)
  simp at e4
  have e5 : atI (rowsD R (n + 1)) (n : Int) = some (tI (rowN R n)) := atI_n (by rw [rowsD_succ, List.getElem?_append_right (by rw [rowsD_len]; omega)]; simp [rowsD_len])
  have e6 : atI ((rowN R n).map D.int) (k : Int) = some (.int (at0 (rowN R n) k)) := atI_n (by
    rw [List.getElem?_map, List.getElem?_eq_getElem (by rw [rowN_len]; omega)]
    simp [at0, List.getD_eq_getElem?_getD, List.getElem?_eq_getElem (show k < (rowN R n).length by rw [rowN_len]; omega)])
  simp [d_part_at, b_part_at, Dd.df, enter, go_need_rule l m R h, e2, e3, e4, e5, tI, e6]
def isRow (d : D) (long : Int) : Bool := match d with
  | .tup l => decide ((l.length : Int) = long) && l.all isI
  | _ => false
theorem go_is_row (l : Bool) (m : Nat) (d : D) (hd : d.pl = true) (long : Nat) (hz : ∀ ds, d = .tup ds → ds.length ≤ 100000) : go l (m + 2) 29 [d, .int long] = M.pure (.bl (isRow d long)) := by
  rw [st_is_row, bodyM_eq _ _ _ rfl]
  by_cases ht : isT d = true
  · cases d with
    | tup ds =>
      have hz := hz ds rfl
      have hp : ∀ x ∈ ds, x.pl = true := pls_mem (by rw [D.pl] at hd; exact hd)
      have e1 := go_itup_t l m ds long long
      by_cases hl : ds.length = long
      · subst hl
        simp at e1
        simp [d_is_row, b_is_row, b_is_row_e0, Dd.df, enter, e1]
        rw [compL_map (fun d => .bl (isI d)) ds (fun d hd => ?_) (by omega)]
        · have := bools_map (ds.map isI)
          rw [List.map_map] at this
          have e2 : (ds.map fun d => D.bl (isI d)) = ds.map (D.bl ∘ isI) := rfl
          rw [e2]
          simp [this, isRow]
        · refine ⟨_, rfl, rfl, ?_⟩
          have := hp d hd
          cases d with
          | int i => rfl
          | bl b => rfl
          | non => rfl
          | str x => rfl
          | tup l => rfl
          | lst l => rfl
          | _ => cases this
      · have e2 : (decide ((long : Int) ≤ (ds.length : Int)) && decide ((ds.length : Int) ≤ (long : Int))) = false := by
          by_cases h : (long : Int) ≤ ds.length
          · rw [decide_eq_true h, decide_eq_false (by omega)]; rfl
          · rw [decide_eq_false h]; rfl
        rw [e2] at e1
        have e3 : decide ((ds.length : Int) = (long : Int)) = false := decide_eq_false (by omega)
        simp only [isRow, e3]
        simp [d_is_row, b_is_row, b_is_row_e0, Dd.df, enter, e1]
    | _ => cases ht
  · have ht : isT d = false := by simpa using ht
    have e1 := go_itup_o l m d hd ht long long
    have e2 : isRow d long = false := by cases d <;> first | rfl | cases ht
    simp [d_is_row, b_is_row, b_is_row_e0, Dd.df, enter, e1, e2]
def rowsOk : Nat → List D → Bool
  | _, [] => true
  | k, d :: ds => isRow d ((k + 1 : Nat) : Int) && rowsOk (k + 1) ds
def rowF (d : D) : Bool := match d with
  | .tup [.int i, x] => isRow x (i + 1)
  | _ => false
theorem rowF_all : ∀ (ds : List D) (k : Nat), ((enumD k ds).map rowF).all id = rowsOk k ds
  | [], _ => rfl
  | d :: ds, k => by
    have ih := rowF_all ds (k + 1)
    show (isRow d ((k : Int) + 1) && ((enumD (k + 1) ds).map rowF).all id) = _
    rw [ih]
    rfl
theorem enumD_mem : ∀ {ds : List D} {k : Nat} {d : D}, d ∈ enumD k ds → ∃ (i : Nat) (x : D), d = .tup [.int i, x] ∧ x ∈ ds
  | x :: ds, k, d, h => by
    have h : d ∈ D.tup [.int (k : Nat), x] :: enumD (k + 1) ds := h
    rcases List.mem_cons.mp h with rfl | h
    · exact ⟨k, x, rfl, by simp⟩
    · obtain ⟨i, y, e, hy⟩ := enumD_mem h
      exact ⟨i, y, e, by simp [hy]⟩
  | [], _, d, h => by cases h
theorem enumD_ln : ∀ (ds : List D) (k : Nat), (enumD k ds).length = ds.length
  | [], _ => rfl
  | _ :: ds, k => by show (enumD (k + 1) ds).length + 1 = ds.length + 1; rw [enumD_ln ds (k + 1)]
theorem rowsOk_ints : ∀ (ds : List D) (k : Nat), rowsOk k ds = true → ∃ X : List (List Int), ds = X.map tI
  | [], _, _ => ⟨[], rfl⟩
  | d :: ds, k, h => by
    rw [rowsOk, Bool.and_eq_true_iff] at h
    obtain ⟨X, hX⟩ := rowsOk_ints ds (k + 1) h.2
    cases d with
    | tup l =>
      have h1 := (Bool.and_eq_true_iff.mp h.1).2
      have : ∀ l : List D, l.all isI = true → ∃ r : List Int, l = r.map .int := fun l => by
        induction l with
        | nil => exact fun _ => ⟨[], rfl⟩
        | cons x l ih =>
          intro hx
          rw [List.all_cons, Bool.and_eq_true_iff] at hx
          obtain ⟨r, rfl⟩ := ih hx.2
          cases x with
          | int i => exact ⟨i :: r, rfl⟩
          | _ => cases hx.1
      obtain ⟨r, rfl⟩ := this l h1
      exact ⟨r :: X, by rw [List.map_cons, ← hX]; rfl⟩
    | _ => cases h.1
theorem rowsOk_rows (R : Ru) : ∀ (n k : Nat), rowsOk k (((List.range n).map fun i => rowN R (k + i)).map tI) = true
  | 0, _ => rfl
  | n + 1, k => by
    rw [List.range_succ_eq_map, List.map_cons, List.map_cons, rowsOk, Bool.and_eq_true_iff]
    refine ⟨?_, ?_⟩
    · have : ∀ r : List Int, (r.map D.int).all isI = true := fun r => by
        rw [List.all_map]
        exact List.all_eq_true.mpr fun _ _ => rfl
      show (decide ((((rowN R (k + 0)).map D.int).length : Int) = ((k + 1 : Nat) : Int)) && ((rowN R (k + 0)).map D.int).all isI) = true
      rw [this, List.length_map, rowN_len]
      simp
    · have := rowsOk_rows R n (k + 1)
      have e : (List.map Nat.succ (List.range n)).map (fun i => rowN R (k + i)) = (List.range n).map (fun i => rowN R (k + 1 + i)) := by
        rw [List.map_map]
        congr 1
        funext i
        show rowN R (k + (i + 1)) = _
        rw [show k + (i + 1) = k + 1 + i by omega]
      rw [e]
      exact this
theorem sms_int : ∀ a b : List Int, sms (a.map .int) (b.map .int) = decide (a = b)
  | [], [] => by simp [sms]
  | [], _ :: _ => by simp [sms]
  | _ :: _, [] => by simp [sms]
  | x :: a, y :: b => by
    simp only [List.map_cons, sms, sm, sms_int a b]
    by_cases h : x = y <;> simp [h]
theorem sms_tI : ∀ a b : List (List Int), sms (a.map tI) (b.map tI) = decide (a = b)
  | [], [] => by simp [sms]
  | [], _ :: _ => by simp [sms]
  | _ :: _, [] => by simp [sms]
  | x :: a, y :: b => by
    have := sms_int x y
    simp only [List.map_cons, sms, sms_tI a b]
    show (sms (x.map .int) (y.map .int) && _) = _
    rw [this]
    by_cases h : x = y <;> simp [h]
def beg (R : Ru) (v : D) : Bool := match v with
  | .tup l => decide (1 ≤ l.length) && (decide (l.length ≤ 30) && sms l (rowsD R l.length))
  | _ => false
theorem go_begins (l : Bool) (m : Nat) (R : Ru) (h : R.ok) (v : D) (hv : v.pl = true) (hz : ∀ ds, v = .tup ds → ∀ es, .tup es ∈ ds → es.length ≤ 100000) : go l (m + 4) 10 [R.t, v] = M.pure (.bl (beg R v)) := by
  rw [st_begins_with, bodyM_eq _ _ _ rfl]
  have hn := go_need_rule l m R h
  by_cases ht : isT v = true
  · cases v with
    | tup ds =>
      have hz := hz ds rfl
      have hp : ∀ x ∈ ds, x.pl = true := pls_mem (by rw [D.pl] at hv; exact hv)
      have e1 := go_itup_t l (m + 2) ds 1 30
      by_cases hl : 1 ≤ ds.length ∧ ds.length ≤ 30
      · obtain ⟨l1, l2⟩ := hl
        rw [decide_eq_true (show (1 : Int) ≤ ds.length by omega), decide_eq_true (show (ds.length : Int) ≤ 30 by omega)] at e1
        have ec : ∀ {tg : D → Option En} {test elt : En → M D}, (∀ i x, x ∈ ds → ∃ e, tg (.tup [.int (i : Nat), x]) = some e ∧ test e = M.pure (.bl true) ∧ elt e = go l (m + 3) 29 [x, .int ((i : Int) + 1)]) → compL tg test elt (enumD 0 ds) [] = M.pure (.lst (((enumD 0 ds).map rowF).map .bl)) := fun {tg test elt} hk => by
          rw [compL_map (fun d => .bl (rowF d)) (enumD 0 ds) (fun d hd => ?_) (by rw [enumD_ln]; omega), List.map_map]
          · rfl
          · obtain ⟨i, x, rfl, hx⟩ := enumD_mem hd
            obtain ⟨e, a, b, c⟩ := hk i x hx
            refine ⟨e, a, b, ?_⟩
            rw [c]
            have := go_is_row l (m + 1) x (hp x hx) (i + 1) (fun es he => hz es (by rw [← he]; exact hx))
            simp at this
            exact this
        have er := go_rows_in l (m + 1) R h ds.length l1 (by omega)
        simp [d_begins_with, b_begins_with, b_begins_with_e0, Dd.df, enter, hn, e1]
        rw [ec (fun i x hx => ⟨_, rfl, rfl, by simp [En.wipe]⟩)]
        have bf : Option.map (fun bs => D.bl (bs.all id)) (D.bools (List.map (D.bl ∘ rowF) (enumD 0 ds))) = some (.bl (rowsOk 0 ds)) := by
          have b1 := bools_map ((enumD 0 ds).map rowF)
          rw [List.map_map] at b1
          rw [b1, Option.map_some, rowF_all]
        simp only [beg, decide_eq_true l1, decide_eq_true l2, Bool.true_and]
        cases ho : rowsOk 0 ds with
        | true =>
          rw [ho] at bf
          obtain ⟨X, rfl⟩ := rowsOk_ints ds 0 ho
          rw [List.length_map] at er
          have eq := eq_ltI X (rowsN R X.length)
          have e5 : sms (X.map tI) (rowsD R (X.map tI).length) = decide (X = rowsN R X.length) := by
            rw [List.length_map]; exact sms_tI _ _
          rw [e5]
          have eq : D.eq (.lst (X.map tI)) (.lst (rowsD R X.length)) = some (decide (X = rowsN R X.length)) := eq
          simp [bf, er, eq]
        | false =>
          rw [ho] at bf
          have e5 : sms ds (rowsD R ds.length) = false := by
            cases q : sms ds (rowsD R ds.length) with
            | false => rfl
            | true =>
              have := sms_eq _ _ q
              have r2 := rowsOk_rows R ds.length 0
              simp only [Nat.zero_add] at r2
              have r3 : rowsOk 0 (rowsD R ds.length) = true := r2
              rw [← this, ho] at r3
              cases r3
          rw [e5]
          simp [bf]
      · have e2 : (decide ((1 : Int) ≤ ds.length) && decide ((ds.length : Int) ≤ 30)) = false := by
          by_cases h : (1 : Int) ≤ ds.length
          · rw [decide_eq_true h, decide_eq_false (by omega)]; rfl
          · rw [decide_eq_false h]; rfl
        rw [e2] at e1
        have e3 : beg R (.tup ds) = false := by
          by_cases h1 : 1 ≤ ds.length
          · have h2 : ¬ ds.length ≤ 30 := by omega
            simp [beg, h2]
          · simp [beg, h1]
        rw [e3]
        simp [d_begins_with, b_begins_with, b_begins_with_e0, Dd.df, enter, hn, e1]
    | _ => cases ht
  · have ht : isT v = false := by simpa using ht
    have e1 := go_itup_o l (m + 2) v hv ht 1 30
    have e2 : beg R v = false := by cases v <;> first | rfl | cases ht
    simp [d_begins_with, b_begins_with, b_begins_with_e0, Dd.df, enter, hn, e1, e2]
end Kx
set_option Elab.async false
set_option linter.all false
set_option maxRecDepth 100000
set_option maxHeartbeats 4000000
namespace Kx
open PySem PySem.Spec PyProof.Rows L2 Co
@[simp] theorem slD_tup (l : List D) (lo hi : Option Int) : slD (.tup l) lo hi = some (.tup (cutD l lo hi)) := nr rfl
@[simp] theorem slD_lst (l : List D) (lo hi : Option Int) : slD (.lst l) lo hi = some (.lst (cutD l lo hi)) := nr rfl
theorem cut_from {α : Type} (l : List α) (k : Nat) (h : k ≤ l.length) : cutD l (some (k : Int)) none = l.drop k := by
  have e : HT.sIx l.length 0 (some (k : Int)) = k := by
    unfold HT.sIx
    simp
    rw [if_neg (by omega)]
    omega
  have e2 : HT.sIx l.length l.length none = l.length := rfl
  unfold Co.cutD
  rw [e, e2]
  rw [List.take_of_length_le (by rw [List.length_drop]; exact Nat.le_refl _)]
theorem cut_last {α : Type} (l : List α) : cutD l none (some (-1)) = l.take (l.length - 1) := by
  have e : HT.sIx l.length l.length (some (-1)) = l.length - 1 := by
    unfold HT.sIx
    simp
    omega
  have e2 : HT.sIx l.length 0 none = 0 := rfl
  unfold Co.cutD
  rw [e, e2]
  simp
theorem sum_add (f g : Nat → Int) : ∀ N : Nat, ((List.range N).map fun k => f k + g k).sum = ((List.range N).map f).sum + ((List.range N).map g).sum
  | 0 => rfl
  | N + 1 => by
    simp only [List.range_succ, List.map_append, List.map_cons, List.map_nil, List.sum_append, List.sum_cons, List.sum_nil, sum_add f g N]
    omega
theorem sum_mul (c : Int) (h : Nat → Int) : ∀ N : Nat, ((List.range N).map fun k => c * h k).sum = c * ((List.range N).map h).sum
  | 0 => by simp
  | N + 1 => by
    simp only [List.range_succ, List.map_append, List.map_cons, List.map_nil, List.sum_append, List.sum_cons, List.sum_nil, sum_mul c h N, Int.mul_add, Int.add_zero]
theorem sum_bef (Q : Nat → Int) (row : List Int) (n : Nat) : ((List.range (n + 1)).map fun k => Q k * bef row k).sum = ((List.range n).map fun j => Q (j + 1) * at0 row j).sum := by
  rw [List.range_succ_eq_map, List.map_cons, List.sum_cons, List.map_map]
  have e0 : Q 0 * bef row 0 = 0 := by simp [bef]
  rw [e0, Int.zero_add]
  congr 1
theorem sum_at (P : Nat → Int) (row : List Int) (n : Nat) (h : row.length = n) : ((List.range (n + 1)).map fun k => P k * at0 row k).sum = ((List.range n).map fun j => P j * at0 row j).sum := by
  rw [List.range_succ, List.map_append, List.sum_append]
  have e0 : at0 row n = 0 := by unfold at0; rw [List.getD_eq_getElem?_getD, List.getElem?_eq_none (by omega)]; rfl
  simp [e0]
theorem sum_next (R : Ru) (h : R.c + R.f = 0) (n : Nat) (row : List Int) (hl : row.length = n) : (nextRow R n row).sum = (R.a + R.d + R.f + (R.b + R.e) * (n : Int)) * row.sum := by
  unfold nextRow
  have e1 : cell R n row = fun k : Nat => R.p n k * at0 row k + R.q n k * bef row k := rfl
  rw [e1, sum_add (fun k : Nat => R.p n k * at0 row k) (fun k : Nat => R.q n k * bef row k), sum_at (fun k : Nat => R.p n k) row n hl, sum_bef (fun k : Nat => R.q n k) row n, ← sum_add]
  have e2 : (fun j : Nat => R.p n j * at0 row j + R.q n (j + 1 : Nat) * at0 row j) = fun j => (R.a + R.d + R.f + (R.b + R.e) * (n : Int)) * at0 row j := by
    funext j
    rw [← Int.add_mul]
    congr 1
    unfold Ru.p Ru.q
    have hf : R.f = -R.c := by omega
    rw [hf]
    have : ((j + 1 : Nat) : Int) = (j : Int) + 1 := by omega
    rw [this, Int.mul_add, Int.neg_mul, Int.mul_one, Int.add_mul]
    omega
  rw [e2, sum_mul]
  congr 1
  have := at0_all row
  rw [hl] at this
  rw [this]
theorem like_same (l : Bool) (n : Nat) (d : D) (h : li d = true) (hd : dep d ≤ 3) : go l (n + 5) 11 [d, d] = M.pure (.bl true) := by
  have := like_sm l 3 d hd h d (pl_li d h) n
  rw [sm_refl d (pl_li d h)] at this
  exact this
theorem go_rollN (l : Bool) (n : Nat) (m : Nat) (x y : Int) (hm : 0 < m) (hl : m < 100000) : ∃ (r : Nat) (x' y' : Int), r < m ∧ go l (n + 1) 5 [.cup, .int m] (some (x, y)) = some (.ok (.int r), some (x', y')) := by
  obtain ⟨r, x', y', h0, h1, e⟩ := go_roll l n m x y (by omega) (log_small (by omega) (by omega))
  refine ⟨r.toNat, x', y', by omega, ?_⟩
  rw [e, Int.toNat_of_nonneg h0]
theorem lis_ints (r : List Int) : lis (r.map .int) = true := lis_of fun d hd => by
  obtain ⟨i, _, rfl⟩ := List.mem_map.mp hd
  rfl
theorem li_tI (r : List Int) (h : r.length ≤ 1000000) : li (tI r) = true := by
  show (lis (r.map .int) && decide ((r.map D.int).length ≤ 1000000)) = true
  rw [lis_ints, List.length_map, decide_eq_true h]; rfl
theorem dep_tI1 (r : List Int) : dep (tI r) ≤ 1 := by
  show deps (r.map .int) + 1 ≤ 1
  have : deps (r.map .int) ≤ 0 := deps_of fun d hd => by
    obtain ⟨i, _, rfl⟩ := List.mem_map.mp hd
    exact Nat.le_refl _
  omega
theorem li_rows (R : Ru) (m : Nat) (h : m ≤ 100) : lis (rowsD R m) = true := lis_of fun d hd => by
  unfold rowsD rowsN at hd
  rw [List.map_map] at hd
  obtain ⟨i, hi, rfl⟩ := List.mem_map.mp hd
  have := List.mem_range.mp hi
  exact li_tI _ (by rw [rowN_len]; omega)
theorem dep_rows (R : Ru) (m : Nat) : deps (rowsD R m) ≤ 1 := deps_of fun d hd => by
  unfold rowsD at hd
  obtain ⟨r, hr, rfl⟩ := List.mem_map.mp hd
  exact dep_tI1 r
end Kx
set_option Elab.async false
set_option linter.all false
set_option maxRecDepth 100000
set_option maxHeartbeats 4000000
namespace Kx
open PySem PySem.Spec PyProof.Rows L2 Co
abbrev envR (R : Ru) (many n k : Nat) (at_ vals odd v good : Sl) : En := [.val .cup, .val R.t, .val (.int many), .val (.lst (rowsD R many)), .val (.int n), .val (.int k), .val (.int R.a), .val (.int R.b), .val (.int R.c), .val (.int R.d), .val (.int R.e), .val (.int R.f), at_, .val (.tup (rowsD R many)), vals, odd, v, good, .un]
structure OkV (R : Ru) (many : Nat) (v : D) : Prop where
  pl : v.pl = true
  ds : ∀ ds, v = .tup ds → (∀ es, .tup es ∈ ds → es.length ≤ 100000) ∧ (ds.length ≤ many ∨ beg R v = false)
theorem right_turn (l : Bool) (m : Nat) (R : Ru) (h : R.ok) (many n k : Nat) (h0 : 1 ≤ many) (h1 : many ≤ 30) (v : D) (hv : OkV R many v) (at_ vals odd good : Sl) :
    exs (cl l (m + 5)) b__law_right_b2 (envR R many n k at_ vals odd (.val v) good) = M.pure (.nx, envR R many n k at_ vals odd (.val v) (.val (.bl (beg R v)))) := by
  have hb := go_begins l (m + 1) R h v hv.pl (fun ds e => (hv.ds ds e).1)
  have hs := fun b : Bool => like_same l m (.bl b) rfl (by show 0 ≤ 3; omega)
  by_cases ht : isT v = true
  · cases v with
    | tup ds =>
      obtain ⟨d1, d2⟩ := hv.ds ds rfl
      by_cases l1 : 1 ≤ ds.length
      · by_cases l2 : ds.length ≤ many
        · have hc : cutD (rowsD R many) none (some (ds.length : Int)) = rowsD R ds.length := by
            rw [cut_to _ _ (by rw [rowsD_len]; exact l2), rowsD_take R many _ l2]
          have hl := like_sm l 2 (.tup (rowsD R ds.length)) (by have := dep_rows R ds.length; rw [dep]; omega) (by rw [li, li_rows R _ (by omega), rowsD_len, decide_eq_true (show ds.length ≤ 1000000 by omega)]; rfl) (.tup ds) hv.pl (m + 1)
          have eb : beg R (.tup ds) = sms ds (rowsD R ds.length) := by
            simp [beg, l1, show ds.length ≤ 30 by omega]
          rw [sm, ← eb] at hl
          have i1 : (1 : Int) ≤ (ds.length : Int) := by omega
          have i2 : (ds.length : Int) ≤ (many : Int) := by omega
          simp [b__law_right_b2, i1, i2, l2, hc, hl, hb, hs]
        · have eb : beg R (.tup ds) = false := d2.resolve_left l2
          have i1 : (1 : Int) ≤ (ds.length : Int) := by omega
          have i2 : ¬ (ds.length : Int) ≤ (many : Int) := by omega
          rw [eb] at hb ⊢
          simp [b__law_right_b2, i1, i2, l2, hb, hs]
      · have eb : beg R (.tup ds) = false := by simp [beg, l1]
        have i1 : ¬ (1 : Int) ≤ (ds.length : Int) := by omega
        rw [eb] at hb ⊢
        simp [b__law_right_b2, i1, l1, hb, hs]
    | _ => cases ht
  · have eb : beg R v = false := by cases v <;> first | rfl | exact absurd rfl ht
    have ec : clsOf (kOf KT) (subOf sub) 20 v = some false := by
      have := hv.pl
      cases v <;> first | rfl | exact absurd rfl ht | cases this
    rw [eb] at hb ⊢
    simp [b__law_right_b2, ec, hb, hs]
theorem vals_loop (l : Bool) (m : Nat) (R : Ru) (h : R.ok) (many n k : Nat) (h0 : 1 ≤ many) (h1 : many ≤ 30) (at_ vals odd : Sl) (p : Pos) : ∀ (vs : List D) (v good : Sl), (∀ x ∈ vs, OkV R many x) →
    ∃ v' good', forL (tgt (.nm 16 p)) (exs (cl l (m + 5)) b__law_right_b2) vs (envR R many n k at_ vals odd v good) = M.pure (.nx, envR R many n k at_ vals odd v' good')
  | [], v, good, _ => ⟨v, good, rfl⟩
  | x :: vs, v, good, hv => by
    obtain ⟨v', g', e⟩ := vals_loop l m R h many n k h0 h1 at_ vals odd p vs (.val x) (.val (.bl (beg R x))) fun y hy => hv y (by simp [hy])
    refine ⟨v', g', ?_⟩
    rw [forL_cons (env1 := envR R many n k at_ vals odd (.val x) good) rfl, right_turn l m R h many n k h0 h1 x (hv x (by simp))]
    exact e
def rowI (R : Ru) (n : Nat) : List D := (rowN R n).map .int
def mid (R : Ru) (many n k : Nat) (o : D) : D := .tup (cutD (rowsD R many) none (some (n : Int)) ++ [.tup (cutD (rowI R n) none (some (k : Int)) ++ [o] ++ cutD (rowI R n) (some ((k : Int) + 1)) none)] ++ cutD (rowsD R many) (some ((n : Int) + 1)) none)
theorem cut_len {α : Type} (l : List α) (a b : Option Int) : (cutD l a b).length ≤ l.length := by
  unfold Co.cutD
  rw [List.length_take, List.length_drop]
  omega
theorem cut_mem {α : Type} {l : List α} {a b : Option Int} {x : α} (h : x ∈ cutD l a b) : x ∈ l := List.mem_of_mem_drop (List.mem_of_mem_take h)
theorem at_row (R : Ru) (many n : Nat) (h : n < many) : atI (rowsD R many) (n : Int) = some (.tup (rowI R n)) := atI_n (by
  unfold rowsD rowsN
  rw [List.map_map, List.getElem?_map, List.getElem?_range h]
  rfl)
theorem app_loop (l : Bool) (m : Nat) (R : Ru) (many n k : Nat) (hn : n < many) (hk : k ≤ n) (h1 : many ≤ 30) (at_ v good : Sl) (p : Pos) : ∀ (ods vs : List D) (odd : Sl), vs.length + ods.length ≤ 1000 →
    ∃ odd', forL (tgt (.nm 15 p)) (exs (cl l m) b__law_right_b1) ods (envR R many n k at_ (.own vs) odd v good) = M.pure (.nx, envR R many n k at_ (.own (vs ++ ods.map (mid R many n k))) odd' v good)
  | [], vs, odd, _ => ⟨odd, by simp⟩
  | o :: ods, vs, odd, hl => by
    simp only [List.length_cons] at hl
    obtain ⟨odd', e⟩ := app_loop l m R many n k hn hk h1 at_ v good p ods (vs ++ [mid R many n k o]) (.val o) (by simp; omega)
    refine ⟨odd', ?_⟩
    have ar := at_row R many n hn
    have q1 := cut_len (rowsD R many) none (some (n : Int))
    have q2 := cut_len (rowsD R many) (some ((n : Int) + 1)) none
    have q3 := cut_len (rowI R n) none (some (k : Int))
    have q4 := cut_len (rowI R n) (some ((k : Int) + 1)) none
    have q5 : (rowI R n).length = n + 1 := by unfold rowI; rw [List.length_map, rowN_len]
    rw [rowsD_len] at q1 q2
    have s1 : Co.sizeOk ((cutD (rowI R n) none (some (k : Int))).length + 1) = true := sizeOk_le (by omega)
    have s2 : Co.sizeOk ((cutD (rowI R n) none (some (k : Int))).length + 1 + (cutD (rowI R n) (some ((k : Int) + 1)) none).length) = true := sizeOk_le (by omega)
    have s3 : Co.sizeOk ((cutD (rowsD R many) none (some (n : Int))).length + 1) = true := sizeOk_le (by omega)
    have s4 : Co.sizeOk ((cutD (rowsD R many) none (some (n : Int))).length + 1 + (cutD (rowsD R many) (some ((n : Int) + 1)) none).length) = true := sizeOk_le (by omega)
    have s5 : Co.sizeOk (vs.length + 1) = true := sizeOk_le (by omega)
    have eb : exs (cl l m) b__law_right_b1 (envR R many n k at_ (.own vs) (.val o) v good) = M.pure (.nx, envR R many n k at_ (.own (vs ++ [mid R many n k o])) (.val o) v good) := by
      simp [b__law_right_b1, ar, s1, s2, s3, s4, s5, mid]
    rw [forL_cons (env1 := envR R many n k at_ (.own vs) (.val o) v good) rfl, eb]
    rw [b_pure, fstep_nx, e, List.map_cons, List.append_assoc]
    rfl
end Kx
set_option Elab.async false
set_option linter.all false
set_option maxRecDepth 100000
set_option maxHeartbeats 4000000
namespace Kx
open PySem PySem.Spec PyProof.Rows L2 Co
theorem exs_step {C : Cl} {st : S} {ss : Ss} {env e' : En} {s s' : St2} {r : Option (Res (Fl × En) × St2)} (h : ex C st env s = some (.ok (.nx, e'), s')) (h2 : exs C ss e' s' = r) : exs C (.cons st ss) env s = r := by
  rw [exs_cons, bind_s h]
  exact h2
theorem exs_last {C : Cl} {st : S} {env e' : En} {s s' : St2} {d : D} (h : ex C st env s = some (.ok (.ret d, e'), s')) : exs C (.cons st .nil) env s = some (.ok (.ret d, e'), s') := by
  rw [exs_cons, bind_s h]
  rfl
structure OkE (x : D) : Prop where
  pl : x.pl = true
  sz : ∀ es, x = .tup es → es.length ≤ 100000
theorem okV_of {R : Ru} {many : Nat} {ds : List D} (h : ∀ x ∈ ds, OkE x) (hl : ds.length ≤ many) : OkV R many (.tup ds) :=
  ⟨by rw [D.pl]; exact pls_of fun x hx => (h x hx).pl, fun es e => by cases e; exact ⟨fun q hq => (h _ hq).sz q rfl, .inl hl⟩⟩
theorem okE_tI (r : List Int) (h : r.length ≤ 100000) : OkE (tI r) := ⟨pl_tI r, fun es e => by cases e; rw [List.length_map]; exact h⟩
theorem okE_rows (R : Ru) (m : Nat) (h : m ≤ 100) : ∀ x ∈ rowsD R m, OkE x := fun x hx => by
  unfold rowsD rowsN at hx
  rw [List.map_map] at hx
  obtain ⟨i, hi, rfl⟩ := List.mem_map.mp hx
  have := List.mem_range.mp hi
  exact okE_tI _ (by rw [rowN_len]; omega)
theorem okE_lst (l : List D) (h : D.pls l = true) : OkE (.lst l) := ⟨h, fun es e => by cases e⟩
theorem okV_o {R : Ru} {many : Nat} {v : D} (h : v.pl = true) (ht : isT v = false) : OkV R many v := ⟨h, fun ds e => by subst e; cases ht⟩
def last (R : Ru) (many : Nat) : List D := rowI R (many - 1)
def V0 (R : Ru) (many : Nat) : List D := [.tup (rowsD R many), .tup (cutD (rowsD R many) none (some (-1))), .tup (cutD (rowsD R many) (some 1) none), .tup (cutD (rowsD R many) none (some 1)), .lst (rowsD R many), .tup (rowsD R many ++ [.tup [.int 0]])]
def V1 (R : Ru) (many : Nat) : List D := V0 R many ++ [.non, .tup [], .int 0, .tup (cutD (rowsD R many) none (some (-1)) ++ [.lst (last R many)]), .tup (cutD (rowsD R many) none (some (-1)) ++ [.tup (cutD (last R many) (some 1) none)])]
def odds (R : Ru) (n k : Nat) : List D := [.non, .bl true, .str (Str.ofString "1"), .int (at0 (rowN R n) k + 1), .int (at0 (rowN R n) k), .int (-at0 (rowN R n) k)]
def V2 (R : Ru) (many n k : Nat) : List D := V1 R many ++ (odds R n k).map (mid R many n k)
theorem row_pl (R : Ru) (n : Nat) : ∀ x ∈ rowI R n, x.pl = true := fun x hx => by
  unfold rowI at hx
  obtain ⟨i, _, rfl⟩ := List.mem_map.mp hx
  rfl
theorem rowI_len (R : Ru) (n : Nat) : (rowI R n).length = n + 1 := by unfold rowI; rw [List.length_map, rowN_len]
theorem beg_more (R : Ru) (many : Nat) (h0 : 1 ≤ many) : beg R (.tup (rowsD R many ++ [.tup [.int 0]])) = false := by
  have hl : (rowsD R many ++ [D.tup [.int 0]]).length = many + 1 := by simp [rowsD_len]
  show (decide (1 ≤ (rowsD R many ++ [D.tup [.int 0]]).length) && (decide ((rowsD R many ++ [D.tup [.int 0]]).length ≤ 30) && sms (rowsD R many ++ [D.tup [.int 0]]) (rowsD R (rowsD R many ++ [D.tup [.int 0]]).length))) = false
  rw [hl]
  have : sms (rowsD R many ++ [D.tup [.int 0]]) (rowsD R (many + 1)) = false := by
    cases q : sms (rowsD R many ++ [D.tup [.int 0]]) (rowsD R (many + 1)) with
    | false => rfl
    | true =>
      have e := sms_eq _ _ q
      rw [rowsD_succ] at e
      have e2 := List.append_cancel_left e
      injection e2 with e3 _
      unfold tI at e3
      injection e3 with e4
      have := congrArg List.length e4
      rw [List.length_map, rowN_len] at this
      simp at this
      omega
  rw [this]
  simp
theorem okV2 (R : Ru) (many n k : Nat) (h0 : 1 ≤ many) (h1 : many ≤ 30) (hn : n < many) (hk : k ≤ n) : ∀ x ∈ V2 R many n k, OkV R many x := by
  have hr := okE_rows R many (by omega)
  have hc : ∀ a b, ∀ x ∈ cutD (rowsD R many) a b, OkE x := fun a b x hx => hr x (cut_mem hx)
  have hcl : ∀ a b, (cutD (rowsD R many) a b).length ≤ many := fun a b => by have := cut_len (rowsD R many) a b; rw [rowsD_len] at this; exact this
  have hpl : ∀ a b n, ∀ x ∈ cutD (rowI R n) a b, x.pl = true := fun a b n x hx => row_pl R n x (cut_mem hx)
  have l1 : (cutD (rowsD R many) none (some (-1))).length = many - 1 := by rw [cut_last, List.length_take, rowsD_len]; omega
  have lastE : ∀ a b, OkE (.tup (cutD (last R many) a b)) := fun a b => ⟨by rw [D.pl]; exact pls_of (hpl a b (many - 1)), fun es e => by
    cases e
    have := cut_len (last R many) a b
    unfold last at this
    rw [rowI_len] at this
    unfold last
    omega⟩
  have one : ∀ (a : Option Int) (b : Option Int) (y : D), OkE y → (cutD (rowsD R many) a b).length + 1 ≤ many → OkV R many (.tup (cutD (rowsD R many) a b ++ [y])) := fun a b y hy hl => okV_of (fun x hx => by
    rcases List.mem_append.mp hx with hx | hx
    · exact hc a b x hx
    · rw [List.mem_singleton.mp hx]; exact hy) (by simp; omega)
  have hmid : ∀ o : D, o.pl = true → OkV R many (mid R many n k o) := fun o ho => by
    have c1 : (cutD (rowsD R many) none (some (n : Int))).length = n := by rw [cut_to _ _ (by rw [rowsD_len]; omega), List.length_take, rowsD_len]; omega
    have c2 : (cutD (rowsD R many) (some ((n : Int) + 1)) none).length = many - (n + 1) := by
      have := cut_from (rowsD R many) (n + 1) (by rw [rowsD_len]; omega)
      rw [show (((n + 1 : Nat) : Int)) = (n : Int) + 1 by omega] at this
      rw [this, List.length_drop, rowsD_len]
    refine okV_of (fun x hx => ?_) (by simp [c1, c2]; omega)
    rcases List.mem_append.mp hx with hx | hx
    · rcases List.mem_append.mp hx with hx | hx
      · exact hc _ _ x hx
      · rw [List.mem_singleton.mp hx]
        refine ⟨by
          rw [D.pl]
          refine pls_of fun y hy => ?_
          rcases List.mem_append.mp hy with hy | hy
          · rcases List.mem_append.mp hy with hy | hy
            · exact hpl _ _ n y hy
            · rw [List.mem_singleton.mp hy]; exact ho
          · exact hpl _ _ n y hy, fun es e => ?_⟩
        cases e
        have q3 := cut_len (rowI R n) none (some (k : Int))
        have q4 := cut_len (rowI R n) (some ((k : Int) + 1)) none
        rw [rowI_len] at q3 q4
        simp
        omega
    · exact hc _ _ x hx
  intro x hx
  unfold V2 V1 V0 odds at hx
  simp only [List.cons_append, List.nil_append, List.map_cons, List.map_nil, List.mem_cons, List.not_mem_nil, or_false] at hx
  rcases hx with rfl | rfl | rfl | rfl | rfl | rfl | rfl | rfl | rfl | rfl | rfl | rfl | rfl | rfl | rfl | rfl | rfl
  · exact okV_of hr (by rw [rowsD_len]; omega)
  · exact okV_of (hc _ _) (hcl _ _)
  · exact okV_of (hc _ _) (hcl _ _)
  · exact okV_of (hc _ _) (hcl _ _)
  · exact okV_o (by rw [D.pl]; exact pls_of fun y hy => (hr y hy).pl) rfl
  · have pm : (D.tup (rowsD R many ++ [.tup [.int 0]])).pl = true := by
      rw [D.pl]
      refine pls_of fun y hy => ?_
      rcases List.mem_append.mp hy with hy | hy
      · exact (hr y hy).pl
      · rw [List.mem_singleton.mp hy]
        rfl
    refine ⟨pm, fun ds e => ⟨fun es he => ?_, .inr (by cases e; exact beg_more R many h0)⟩⟩
    cases e
    rcases List.mem_append.mp he with he | he
    · exact (hr _ he).sz es rfl
    · have := List.mem_singleton.mp he
      cases this
      simp
  · exact okV_o rfl rfl
  · exact okV_of (fun x hx => by cases hx) (Nat.zero_le _)
  · exact okV_o rfl rfl
  · exact one _ _ _ (okE_lst _ (pls_of (row_pl R (many - 1)))) (by rw [l1]; omega)
  · exact one _ _ _ (lastE _ _) (by rw [l1]; omega)
  · exact hmid _ rfl
  · exact hmid _ rfl
  · exact hmid _ rfl
  · exact hmid _ rfl
  · exact hmid _ rfl
  · exact hmid _ rfl
end Kx
set_option Elab.async false
set_option linter.all false
set_option maxRecDepth 100000
set_option maxHeartbeats 4000000
namespace Kx
open PySem PySem.Spec PyProof.Rows L2 Co
abbrev env1 (R : Ru) (many : Nat) (rows n k : Sl) : En := [.val .cup, .val R.t, .val (.int many), rows, n, k, .un, .un, .un, .un, .un, .un, .un, .un, .un, .un, .un, .un, .un]
abbrev env2 (R : Ru) (many n k : Nat) (at_ told vals : Sl) : En := [.val .cup, .val R.t, .val (.int many), .val (.lst (rowsD R many)), .val (.int n), .val (.int k), .val (.int R.a), .val (.int R.b), .val (.int R.c), .val (.int R.d), .val (.int R.e), .val (.int R.f), at_, told, vals, .un, .un, .un, .un]
theorem at_part (R : Ru) (n k : Nat) (h : k ≤ n) : atI (rowI R n) (k : Int) = some (.int (at0 (rowN R n) k)) := atI_n (by
  unfold rowI
  rw [List.getElem?_map, List.getElem?_eq_getElem (by rw [rowN_len]; omega)]
  simp [at0, List.getD_eq_getElem?_getD, List.getElem?_eq_getElem (show k < (rowN R n).length by rw [rowN_len]; omega)])
theorem small7 {a b : Int} (h : -10 ≤ a ∧ a ≤ 10) (k : b.natAbs < 2 ^ 64) : mulOk a b = true := mulOk_r _ _ k
theorem zero_loop (l : Bool) (m : Nat) (R : Ru) (h : R.ok) (many n k : Nat) (h1 : many ≤ 30) (hz : R.c + R.f = 0) (p : Pos) :
    ∃ at', forL (tgt (.nm 12 p)) (exs (cl l m) b__law_right_b0) (rangeD 1 (many - 1)) (env2 R many n k .un .un .un) = M.pure (.nx, env2 R many n k at' .un .un) := by
  have run := forL_run (tg := tgt (.nm 12 p)) (body := exs (cl l m) b__law_right_b0) (rangeD 1 (many - 1)) (fun i => env2 R many n k (match i with | 0 => .un | i + 1 => .val (.int (1 + (i : Nat)))) .un .un) (fun i d hd => ?_)
  · exact ⟨_, run⟩
  · obtain ⟨hi, rfl⟩ := rangeD_get hd
    refine ⟨_, rfl, ?_⟩
    have a1 : atI (rowsD R many) (1 + (i : Int)) = some (.tup (rowI R (i + 1))) := by
      have := at_row R many (i + 1) (by omega)
      rw [show ((i + 1 : Nat) : Int) = 1 + (i : Int) by omega] at this
      exact this
    have a2 := at_row R many i (by omega)
    have e1 : (1 + (i : Int) - 1) = (i : Int) := by omega
    have s1 : D.ints (rowI R (i + 1)) = some (rowN R (i + 1)) := Co.ints_map _
    have s2 : D.ints (rowI R i) = some (rowN R i) := Co.ints_map _
    have hs := sum_next R hz (i + 1) (rowN R i) (rowN_len R i)
    have hs : (rowN R (i + 1)).sum = (R.a + R.d + R.f + (R.b + R.e) * (1 + (i : Int))) * (rowN R i).sum := by
      rw [show (1 + (i : Int)) = ((i + 1 : Nat) : Int) by omega]
      exact hs
    have b1 := prodB (a := R.b) (n := 1 + (i : Int)) (m := 100) h.b (by omega) (by omega)
    have b2 := prodB (a := R.e) (n := 1 + (i : Int)) (m := 100) h.e (by omega) (by omega)
    have m1 : mulOk (R.b + R.e) (1 + (i : Int)) = true := mulOk_r _ _ (by omega)
    have m2 : ∀ x, mulOk (R.a + R.d + R.f + (R.b + R.e) * (1 + (i : Int))) x = true := fun x => mulOk_l _ _ (by
      have h3 := h.a
      have h4 := h.d
      have h5 := h.f
      rw [Int.add_mul]
      omega)
    simp [b__law_right_b0, a1, a2, e1, s1, s2, m1, m2, hs]
theorem go_right (l : Bool) (m : Nat) (R : Ru) (h : R.ok) (many : Nat) (h0 : 1 ≤ many) (h1 : many ≤ 30) (x y : Int) : ∃ x' y', go l (m + 6) 6 [.cup, R.t, .int many] (some (x, y)) = some (.ok (.bl true), some (x', y')) := by
  obtain ⟨n, x1, y1, hn, en⟩ := go_rollN l (m + 4) many x y (by omega) (by omega)
  obtain ⟨k, x2, y2, hk, ek⟩ := go_rollN l (m + 4) (n + 1) x1 y1 (by omega) (by omega)
  obtain ⟨odd', eo⟩ := app_loop l (m + 5) R many n k hn (by omega) h1 .un .un .un ⟨0, 0, 0, 0⟩ (odds R n k) (V1 R many) .un (by show 11 + 6 ≤ 1000; omega)
  have er := go_law_rows l (m + 4) R h many h0 (by omega)
  have et := go_triangle l (m + 1) R h many h0 h1
  have es := go_row_sums l (m + 1) R h many h0 h1
  have ls : dep (.lst [.tup (rowsD R many), tI ((rowsN R many).map List.sum)]) ≤ 3 := by
    have q1 := dep_rows R many
    have q2 := dep_tI1 ((rowsN R many).map List.sum)
    simp only [dep, deps]
    omega
  have li1 : li (.lst [.tup (rowsD R many), tI ((rowsN R many).map List.sum)]) = true := by
    have q1 := li_rows R many (by omega)
    have q2 := li_tI ((rowsN R many).map List.sum) (by simp [rowsN]; omega)
    simp [li, lis, q1, q2, rowsD_len]
    omega
  have like1 := like_same l m _ li1 ls
  obtain ⟨L, hL⟩ : ∃ L : List D, L = ((rowsN R many).map List.sum).map .int := ⟨_, rfl⟩
  have eL : tI ((rowsN R many).map List.sum) = .tup L := by rw [hL]; rfl
  rw [eL] at es like1
  have p1 := go_part_at l (m + 1) R h n k (by omega) (by omega)
  have p2 := go_part_at l (m + 1) R h n 0 (by omega) (by omega)
  have p3 := go_part_at l (m + 1) R h n n (by omega) (by omega)
  have li2 : li (.lst [.int (at0 (rowN R n) k), .int (at0 (rowN R n) 0), .int (at0 (rowN R n) n)]) = true := rfl
  have like2 := like_same l m _ li2 (by simp [dep, deps])
  have ar := at_row R many n hn
  have ak := at_part R n k (by omega)
  have a0 := at_part R n 0 (by omega)
  have an := at_part R n n (by omega)
  obtain ⟨at', ez1, ez2⟩ : ∃ at', (R.c + R.f = 0 → forL (tgt (.nm 12 ⟨114, 12, 114, 14⟩)) (exs (cl l (m + 5)) b__law_right_b0) (rangeD 1 (many - 1)) (env2 R many n k .un .un .un) = M.pure (.nx, env2 R many n k at' .un .un)) ∧ (R.c + R.f ≠ 0 → at' = .un) := by
    by_cases hz : R.c + R.f = 0
    · obtain ⟨at', e⟩ := zero_loop l (m + 5) R h many n k h1 hz ⟨114, 12, 114, 14⟩
      exact ⟨at', fun _ => e, fun z => absurd hz z⟩
    · exact ⟨.un, fun z => absurd z hz, fun _ => rfl⟩
  have i1 : Co.int64 1 = true := rfl
  have i2 : Co.int64 (many : Int) = true := i64_of (by omega) (by omega)
  have er2 : ((many : Int) - 1).toNat = many - 1 := by omega
  have z1 : Co.sizeOk (many + 1) = true := sizeOk_le (by omega)
  have z2 : Co.sizeOk ((cutD (rowsD R many) none (some (-1))).length + 1) = true := sizeOk_le (by have := cut_len (rowsD R many) none (some (-1)); rw [rowsD_len] at this; omega)
  have al : atI (rowsD R many) (-1) = some (.tup (last R many)) := by
    have := rowsD_last R (many - 1)
    rw [show many - 1 + 1 = many by omega] at this
    exact this
  have z4 : Co.sizeOk 5 = true := rfl
  have z5 : Co.sizeOk 11 = true := rfl
  obtain ⟨odd', eo⟩ := app_loop l (m + 5) R many n k hn (by omega) h1 at' .un .un ⟨120, 8, 120, 11⟩ (odds R n k) (V1 R many) .un (by show 11 + 6 ≤ 1000; omega)
  obtain ⟨v', g', ev⟩ := vals_loop l m R h many n k h0 h1 at' (.val (.lst (V2 R many n k))) odd' ⟨122, 8, 122, 13⟩ (V2 R many n k) .un .un (okV2 R many n k h0 h1 hn (by omega))
  refine ⟨x2, y2, ?_⟩
  rw [st__law_right, bodyM_eq _ _ _ rfl]
  refine bind_s (a := (Fl.ret (.bl true), envR R many n k at' (.val (.lst (V2 R many n k))) odd' v' g')) ?_
  show exs (cl l (m + 5)) b__law_right (env1 R many .un .un .un) (some (x, y)) = _
  unfold b__law_right
  refine exs_step (e' := env1 R many (.val (.lst (rowsD R many))) .un .un) (s' := some (x, y)) (by simp [er, pure_s]) ?_
  refine exs_step (e' := env1 R many (.val (.lst (rowsD R many))) .un .un) (s' := some (x, y)) ?_ ?_
  · simp [et, es, b__law_right_e0]
    rw [compL_map (fun d => match d with
      | .tup l => .int (((D.ints l).getD []).sum)
      | _ => .non) (rowsD R many) (fun d hd => ?_) (by rw [rowsD_len]; omega)]
    · have e3 : (rowsD R many).map (fun d => match d with
        | .tup l => D.int (((D.ints l).getD []).sum)
        | _ => D.non) = ((rowsN R many).map List.sum).map .int := by
        unfold rowsD
        rw [List.map_map, List.map_map]
        refine List.map_congr_left fun r _ => ?_
        simp [tI, Co.ints_map]
      rw [e3, ← hL]
      simp [like1, pure_s]
    · unfold rowsD at hd
      obtain ⟨r, hr, rfl⟩ := List.mem_map.mp hd
      refine ⟨_, rfl, rfl, ?_⟩
      simp [En.wipe, tI, Co.ints_map]
  refine exs_step (e' := env1 R many (.val (.lst (rowsD R many))) (.val (.int n)) .un) (s' := some (x1, y1)) ?_ ?_
  · simp
    rw [bind_s en]
    simp [pure_s]
  refine exs_step (e' := env1 R many (.val (.lst (rowsD R many))) (.val (.int n)) (.val (.int k))) (s' := some (x2, y2)) ?_ ?_
  · simp at ek
    simp
    rw [bind_s ek]
    simp [pure_s]
  refine exs_step (e' := env1 R many (.val (.lst (rowsD R many))) (.val (.int n)) (.val (.int k))) (s' := some (x2, y2)) ?_ ?_
  · simp at p2 a0
    simp [p1, p2, p3, ar, ak, a0, an, like2, pure_s]
  refine exs_step (e' := env2 R many n k .un .un .un) (s' := some (x2, y2)) ?_ ?_
  · simp [Ru.t, tI, pure_s]
  refine exs_step (e' := env2 R many n k at' .un .un) (s' := some (x2, y2)) ?_ ?_
  · by_cases hz : R.c + R.f = 0
    · simp [hz, i1, i2, er2, ez1 hz, pure_s]
    · simp [hz, ez2 hz, pure_s]
  refine exs_step (e' := env2 R many n k at' (.val (.tup (rowsD R many))) .un) (s' := some (x2, y2)) ?_ ?_
  · simp [pure_s]
  refine exs_step (e' := env2 R many n k at' (.val (.tup (rowsD R many))) (.own (V0 R many))) (s' := some (x2, y2)) ?_ ?_
  · simp [V0, rowsD_len, z1, pure_s]
  refine exs_step (e' := env2 R many n k at' (.val (.tup (rowsD R many))) (.val (.lst (V0 R many)))) (s' := some (x2, y2)) ?_ ?_
  · simp [pure_s]
  refine exs_step (e' := env2 R many n k at' (.val (.tup (rowsD R many))) (.own (V1 R many))) (s' := some (x2, y2)) ?_ ?_
  · simp [V1, V0, rowsD_len, z1, z2, z4, z5, al, pure_s]
  refine exs_step (e' := envR R many n k at' (.own (V2 R many n k)) odd' .un .un) (s' := some (x2, y2)) ?_ ?_
  · simp [ar, ak]
    exact congrFun eo _
  refine exs_step (e' := envR R many n k at' (.val (.lst (V2 R many n k))) odd' .un .un) (s' := some (x2, y2)) ?_ ?_
  · simp [pure_s]
  refine exs_step (e' := envR R many n k at' (.val (.lst (V2 R many n k))) odd' v' g') (s' := some (x2, y2)) ?_ ?_
  · simp
    exact congrFun ev _
  exact exs_last (by simp [pure_s])
end Kx
set_option Elab.async false
set_option linter.all false
set_option maxRecDepth 100000
set_option maxHeartbeats 4000000
namespace Kx
open PySem PySem.Spec PyProof.Rows L2 Co
abbrev C0 : Cl := cl true 29
abbrev envL (ns : List Int) (t w r a b c d e f : Sl) : En := [.val (.scr ns), .val .cup, t, w, r, a, b, c, d, e, f]
theorem draw6 (ns : List Int) (t r a b c d e f : Sl) (w x y : Int) (hw : 1 ≤ w ∧ w ≤ 10) : ∃ (xs : List Int) (x' y' : Int), xs.length = 6 ∧ (∀ z ∈ xs, -10 ≤ z ∧ z ≤ 10) ∧
    ∀ p, compL (fun z => tgt (.nm 10 p) z ((envL ns t (.val (.int w)) r a b c d e f).wipe [10])) (fun e => evB C0 .And .nil e) (fun e => ev C0 b_law_e0 e) (rangeD 0 6) [] (some (x, y)) = some (.ok (.lst (xs.map .int)), some (x', y')) := by
  obtain ⟨acc, s', h1, ⟨⟨xs, rfl, hx⟩, x', y', rfl⟩, hl⟩ := compL_inv (tg := fun z => tgt (.nm 10 ⟨0, 0, 0, 0⟩) z ((envL ns t (.val (.int w)) r a b c d e f).wipe [10])) (test := fun e => evB C0 .And .nil e) (elt := fun e => ev C0 b_law_e0 e)
    (fun acc s => (∃ xs : List Int, acc = xs.map .int ∧ ∀ z ∈ xs, -10 ≤ z ∧ z ≤ 10) ∧ ∃ x y, s = some (x, y)) (rangeD 0 6) [] (some (x, y)) (fun z hz acc s hi => by
      obtain ⟨⟨xs, rfl, hx⟩, x, y, rfl⟩ := hi
      obtain ⟨q, x', y', q0, q1, eq⟩ := go_roll true 28 (2 * w + 1) x y (by omega) (log_small (by omega) (by omega))
      refine ⟨_, .int (q - w), some (x', y'), rfl, rfl, ?_, ⟨xs ++ [q - w], by simp, fun z hz => ?_⟩, x', y', rfl⟩
      · have m2 : mulOk 2 w = true := mulOk_l _ _ (by decide)
        simp [b_law_e0, En.wipe, m2]
        rw [bind_s eq]
        simp [pure_s]
      · rcases List.mem_append.mp hz with hz | hz
        · exact hx z hz
        · rw [List.mem_singleton.mp hz]; omega) (by simp) ⟨⟨[], rfl, fun _ h => by cases h⟩, x, y, rfl⟩
  exact ⟨xs, x', y', by simpa using hl, hx, fun p => h1⟩
theorem Ru.t_eq (a b c d e f : Int) : D.tup [.int a, .int b, .int c, .int d, .int e, .int f] = Ru.t ⟨a, b, c, d, e, f⟩ := rfl
theorem turn (ns : List Int) (t w r a b c d e f : Sl) (x y : Int) : ∃ w' r' x' y', exs C0 b_law_b0 (envL ns t w r a b c d e f) (some (x, y)) = some (.ok (.nx, envL ns t w' r' a b c d e f), some (x', y')) := by
  obtain ⟨dw, x1, y1, hd, e1⟩ := go_some true 27 [.int 1, .int 3, .int 10] x y (by simp) (by simp)
  obtain ⟨w', rfl, hw⟩ : ∃ w' : Int, dw = .int w' ∧ 1 ≤ w' ∧ w' ≤ 10 := by
    simp at hd
    rcases hd with rfl | rfl | rfl
    · exact ⟨1, rfl, by omega⟩
    · exact ⟨3, rfl, by omega⟩
    · exact ⟨10, rfl, by omega⟩
  obtain ⟨xs, x2, y2, hl, hx, e2⟩ := draw6 ns t r a b c d e f w' x1 y1 hw
  obtain ⟨q, x3, y3, q0, q1, e3⟩ := go_roll true 28 2 x2 y2 (by omega) (log_small (by omega) (by omega))
  match xs, hl with
  | [A, B, C, D', E', F], _ =>
    have hA := hx A (by simp)
    have hB := hx B (by simp)
    have hC := hx C (by simp)
    have hD := hx D' (by simp)
    have hE := hx E' (by simp)
    have hF := hx F (by simp)
    obtain ⟨R, hR, eR⟩ : ∃ R : Ru, R.ok ∧ R.t = (if q = 0 then D.tup [.int A, .int B, .int C, .int D', .int E', .int (-C)] else D.tup [.int A, .int B, .int C, .int D', .int E', .int F]) := by
      by_cases hq : q = 0
      · exact ⟨⟨A, B, C, D', E', -C⟩, ⟨hA, hB, hC, hD, hE, by dsimp only; omega⟩, by rw [if_pos hq]; rfl⟩
      · exact ⟨⟨A, B, C, D', E', F⟩, ⟨hA, hB, hC, hD, hE, hF⟩, by rw [if_neg hq]; rfl⟩
    obtain ⟨r1, x4, y4, r10, r11, e4⟩ := go_roll true 28 6 x3 y3 (by omega) (log_small (by omega) (by omega))
    obtain ⟨r2, x5, y5, r20, r21, e5⟩ := go_roll true 28 30 x4 y4 (by omega) (log_small (by omega) (by omega))
    obtain ⟨dm, x6, y6, hdm, e6⟩ := go_some true 27 [.int r1, .int r2] x5 y5 (by simp) (by simp)
    obtain ⟨many, rfl, hm0, hm1⟩ : ∃ many : Nat, dm = .int ((many : Int) - 1) ∧ 1 ≤ many ∧ many ≤ 30 := by
      simp at hdm
      rcases hdm with rfl | rfl
      · exact ⟨(r1 + 1).toNat, by congr 1; omega, by omega, by omega⟩
      · exact ⟨(r2 + 1).toNat, by congr 1; omega, by omega, by omega⟩
    obtain ⟨x7, y7, e7⟩ := go_right true 23 R hR many hm0 hm1 x6 y6
    refine ⟨.val (.int w'), .val R.t, x7, y7, ?_⟩
    unfold b_law_b0
    have i6 : Co.int64 6 = true := rfl
    have s5 : Co.sizeOk 6 = true := rfl
    refine exs_step (e' := envL ns t (.val (.int w')) r a b c d e f) (s' := some (x1, y1)) ?_ ?_
    · simp
      rw [bind_s e1]
      simp [pure_s]
    refine exs_step (e' := envL ns t (.val (.int w')) (.val (.tup [.int A, .int B, .int C, .int D', .int E', .int F])) a b c d e f) (s' := some (x2, y2)) ?_ ?_
    · rw [ex_asg, ev_blt, evs_cons, ev_lc]
      simp only [evI_rg1, ev_int, b_pure, rgD_int, i6, gd_t, b_assoc]
      rw [show (6 : Int).toNat = 6 from rfl, bind_s (e2 _)]
      simp [pure_s]
    refine exs_step (e' := envL ns t (.val (.int w')) (.val R.t) a b c d e f) (s' := some (x3, y3)) ?_ ?_
    · have c1 : cutD [D.int A, D.int B, D.int C, D.int D', D.int E', D.int F] none (some 5) = [D.int A, D.int B, D.int C, D.int D', D.int E'] := rfl
      have c2 : atI [D.int A, D.int B, D.int C, D.int D', D.int E', D.int F] 2 = some (.int C) := rfl
      simp
      rw [bind_s e3]
      rw [eR]
      by_cases hq : q = 0 <;> simp [hq, c1, c2, pure_s]
    simp
    rw [bind_s e4]
    try simp
    rw [bind_s e5]
    try simp
    rw [bind_s e6]
    have em : (1 + ((many : Int) - 1)) = (many : Int) := by omega
    simp [em]
    rw [bind_s e7]
    simp [pure_s]
theorem turns (ns : List Int) (a b c d e f : Sl) (p : Pos) : ∀ (ds : List D) (t w r : Sl) (x y : Int), ∃ t' w' r' x' y', forL (tgt (.nm 2 p)) (exs C0 b_law_b0) ds (envL ns t w r a b c d e f) (some (x, y)) = some (.ok (.nx, envL ns t' w' r' a b c d e f), some (x', y')) := by
  intro ds
  induction ds with
  | nil => exact fun t w r x y => ⟨t, w, r, x, y, rfl⟩
  | cons z ds ih =>
    intro t w r x y
    obtain ⟨w1, r1, x1, y1, e1⟩ := turn ns (.val z) w r a b c d e f x y
    obtain ⟨t2, w2, r2, x2, y2, e2⟩ := ih (.val z) w1 r1 x1 y1
    refine ⟨t2, w2, r2, x2, y2, ?_⟩
    rw [forL_cons rfl]
    exact (bind_s e1).trans e2
end Kx
set_option Elab.async false
set_option linter.all false
set_option maxRecDepth 100000
set_option maxHeartbeats 4000000
namespace Kx
open PySem PySem.Spec PyProof.Rows L2 Co
theorem errors (x y : Int) : go true 29 12 [] (some (x, y)) = some (.ok (.bl true), some (x, y)) := by kernel_rfl
end Kx
set_option Elab.async false
set_option linter.all false
set_option maxRecDepth 100000
set_option maxHeartbeats 4000000
namespace Kx
open PySem PySem.Spec PyProof.Rows L2 Co
def mkCup (x y : D) : M D := match x, y with
  | .int i, .int j => fun s => match s with
    | none => some (.ok .cup, some (i, j))
    | some _ => none
  | _, _ => M.no
@[simp] theorem ev_ncup {C : Cl} {env : En} {p : Pos} (a b : E) : ev C (.ncup a b p) env = M.bind (ev C a env) fun x => M.bind (ev C b env) fun y => mkCup x y := nr rfl
theorem mkCup_i (i j : Int) : mkCup (.int i) (.int j) none = some (.ok .cup, some (i, j)) := rfl
theorem cup (ns : List Int) (hn : ns.length ≤ 63) : ∃ x y, go true 29 1 [.scr ns] none = some (.ok .cup, some (x, y)) := by
  have hs : Co.sizeOk (ns.length + 1) = true := sizeOk_le (by omega)
  obtain ⟨c, hc⟩ : ∃ c : Int, atI (ns.map D.int ++ [.int 0]) 0 = some (.int c) := by
    cases ns with
    | nil => exact ⟨0, rfl⟩
    | cons a l => exact ⟨a, by rw [atI_of _ _ (by omega) (by simp; omega)]; rfl⟩
  have h449 : ∀ i, mulOk i 449 = true := fun i => mulOk_r i _ (by decide)
  have h193 : divOk 193 = true := by decide +kernel
  have s1 : Co.sizeOk 1 = true := rfl
  rw [st__law_cup, bodyM_eq _ _ _ rfl]
  simp [d__law_cup, b__law_cup, Dd.df, enter, s1]
  rw [bind_s (show bltM .list [.scr ns] none = some (.ok (.lst (ns.map .int)), none) from rfl)]
  simp [hs, hc, h449, h193]
  by_cases hb : 1000000000000000000 ≤ (if c < 0 then -c else c)
  · rw [if_pos hb]
    exact ⟨_, _, mkCup_i _ _⟩
  · rw [if_neg hb]
    exact ⟨_, _, mkCup_i _ _⟩
def ways : Ru := ⟨1, 0, 0, 1, 0, 0⟩
def sets : Ru := ⟨0, 0, 1, 1, 0, 0⟩
def ups : Ru := ⟨1, 0, 1, 0, 1, -1⟩
def tt (l : List (List Int)) : D := .tup (l.map tI)
def due0 : List D := [tt [[1], [1, 1], [1, 2, 1], [1, 3, 3, 1]], tt [[1], [0, 1], [0, 1, 1], [0, 1, 3, 1]]]
def due1 : List D := due0 ++ [tt [[1], [1, 0], [1, 1, 0], [1, 4, 1, 0]]]
def told0 : List D := due1 ++ [.int 10, tI [1, 1, 2, 6, 24], tI [1, 1, 2, 5, 15]]
def told1 : List D := told0 ++ [.bl true, .bl false, .bl false]
def told2 : List D := [tt [[1], [0, 0], [0, 0, 0]], .int 137846528820, tI [1, 50, 4100]]
def rules : List Ru := [ways, sets, ups, ⟨0, 0, 0, 0, 0, 0⟩, ⟨10, 10, 10, 10, 10, 10⟩, ⟨-10, -10, -10, -10, -10, -10⟩, ⟨-1, 1, 0, 1, 0, 0⟩, ⟨0, 0, 0, 1, 0, 0⟩]
theorem rules_ok : ∀ R ∈ rules, R.ok := by
  intro R hR
  simp only [rules, ways, sets, ups, List.mem_cons, List.not_mem_nil, or_false] at hR
  rcases hR with rfl | rfl | rfl | rfl | rfl | rfl | rfl | rfl <;> exact ⟨by decide, by decide, by decide, by decide, by decide, by decide⟩
theorem rules_loop (ns : List Int) (t w a b c d e f : Sl) (p : Pos) : ∀ (Rs : List Ru) (r : Sl) (x y : Int), (∀ R ∈ Rs, R.ok) → ∃ r' x' y', forL (tgt (.nm 4 p)) (exs C0 b_law_b1) (Rs.map Ru.t) (envL ns t w r a b c d e f) (some (x, y)) = some (.ok (.nx, envL ns t w r' a b c d e f), some (x', y')) := by
  intro Rs
  induction Rs with
  | nil => exact fun r x y _ => ⟨r, x, y, rfl⟩
  | cons R Rs ih =>
    intro r x y h
    obtain ⟨x1, y1, e1⟩ := go_right true 23 R (h R (by simp)) 12 (by omega) (by omega) x y
    obtain ⟨r2, x2, y2, e2⟩ := ih (.val R.t) x1 y1 fun Q hQ => h Q (by simp [hQ])
    refine ⟨r2, x2, y2, ?_⟩
    rw [List.map_cons, forL_cons rfl]
    refine (bind_s (a := (Fl.nx, envL ns t w (.val R.t) a b c d e f)) (s' := some (x1, y1)) ?_).trans e2
    simp at e1
    simp [b_law_b1]
    rw [bind_s e1]
    simp [pure_s]
theorem law_true : ∀ ns : List Int, ns.length ≤ 63 → (∀ z ∈ ns, Builtin.Int.intBits z ≤ 1048576) → ∃ s', go true 30 0 [.scr ns] none = some (.ok (.bl true), s') := by
  intro ns hn _
  obtain ⟨x, y, h1⟩ := cup ns hn
  obtain ⟨t, w, r, x2, y2, h2⟩ := turns ns .un .un .un .un .un .un ⟨144, 8, 144, 12⟩ (rangeD 0 7) .un .un .un x y
  obtain ⟨r3, x3, y3, h3⟩ := rules_loop ns t w (.val ways.t) (.val sets.t) (.val ups.t) (.val (.lst told2)) (.val (.lst due1)) .un ⟨160, 8, 160, 12⟩ rules r x2 y2 rules_ok
  refine ⟨some (x3, y3), ?_⟩
  rw [st_law, bodyM_eq _ _ _ rfl]
  refine bind_s (a := (Fl.ret (.bl true), envL ns t w r3 (.val ways.t) (.val sets.t) (.val ups.t) (.val (.lst told2)) (.val (.lst due1)) .un)) ?_
  show exs C0 b_law (.val (.scr ns) :: .un :: .un :: .un :: .un :: [.un, .un, .un, .un, .un, .un]) none = _
  unfold b_law
  refine exs_step (e' := envL ns .un .un .un .un .un .un .un .un .un) (s' := some (x, y)) (by simp; rw [bind_s h1]; simp [pure_s]) ?_
  refine exs_step (e' := envL ns t w r .un .un .un .un .un .un) (s' := some (x2, y2)) (by rw [ex_fr]; exact h2) ?_
  refine exs_step (e' := envL ns t w r (.val ways.t) (.val sets.t) (.val ups.t) .un .un .un) (s' := some (x2, y2)) (by kernel_rfl) ?_
  refine exs_step (e' := envL ns t w r (.val ways.t) (.val sets.t) (.val ups.t) (.val (.lst told0)) .un .un) (s' := some (x2, y2)) (by kernel_rfl) ?_
  refine exs_step (e' := envL ns t w r (.val ways.t) (.val sets.t) (.val ups.t) (.val (.lst told1)) .un .un) (s' := some (x2, y2)) (by kernel_rfl) ?_
  refine exs_step (e' := envL ns t w r (.val ways.t) (.val sets.t) (.val ups.t) (.val (.lst told1)) (.val (.lst due0)) .un) (s' := some (x2, y2)) (by kernel_rfl) ?_
  refine exs_step (e' := envL ns t w r (.val ways.t) (.val sets.t) (.val ups.t) (.val (.lst told1)) (.val (.lst due1)) .un) (s' := some (x2, y2)) (by kernel_rfl) ?_
  refine exs_step (e' := envL ns t w r (.val ways.t) (.val sets.t) (.val ups.t) (.val (.lst told1)) (.val (.lst due1)) .un) (s' := some (x2, y2)) (by kernel_rfl) ?_
  refine exs_step (e' := envL ns t w r (.val ways.t) (.val sets.t) (.val ups.t) (.val (.lst told2)) (.val (.lst due1)) .un) (s' := some (x2, y2)) (by kernel_rfl) ?_
  refine exs_step (e' := envL ns t w r (.val ways.t) (.val sets.t) (.val ups.t) (.val (.lst told2)) (.val (.lst due1)) .un) (s' := some (x2, y2)) (by kernel_rfl) ?_
  refine exs_step (e' := envL ns t w r3 (.val ways.t) (.val sets.t) (.val ups.t) (.val (.lst told2)) (.val (.lst due1)) .un) (s' := some (x3, y3)) ?_ ?_
  · rw [ex_fr]
    refine (bind_s (a := rules.map Ru.t) (s' := some (x2, y2)) (by kernel_rfl)).trans ?_
    exact h3
  refine exs_last ?_
  rw [ex_ret]
  refine (bind_s (a := D.bl true) (s' := some (x3, y3)) ?_).trans rfl
  exact errors x3 y3
end Kx
set_option Elab.async false
set_option linter.all false
set_option maxRecDepth 100000
set_option maxHeartbeats 0
namespace Kx
open PySem PySem.Spec PyProof.Rows L2 Co
theorem bn_law : d_law.bn GN := by
  intro kV doc pm an cdv ct us hl
  have hl : us.length = 1 := hl
  match us, hl with
  | [_], _ => rfl
theorem bn__law_cup : d__law_cup.bn GN := by
  intro kV doc pm an cdv ct us hl
  have hl : us.length = 1 := hl
  match us, hl with
  | [_], _ => rfl
theorem bn__law_some : d__law_some.bn GN := by
  intro kV doc pm an cdv ct us hl
  have hl : us.length = 2 := hl
  match us, hl with
  | [_, _], _ => rfl
theorem bn__law_roll : d__law_roll.bn GN := by
  intro kV doc pm an cdv ct us hl
  have hl : us.length = 2 := hl
  match us, hl with
  | [_, _], _ => rfl
theorem bn__law_right : d__law_right.bn GN := by
  intro kV doc pm an cdv ct us hl
  have hl : us.length = 3 := hl
  match us, hl with
  | [_, _, _], _ => rfl
theorem bn_triangle : d_triangle.bn GN := by
  intro kV doc pm an cdv ct us hl
  have hl : us.length = 2 := hl
  match us, hl with
  | [_, _], _ => rfl
theorem bn_part_at : d_part_at.bn GN := by
  intro kV doc pm an cdv ct us hl
  have hl : us.length = 3 := hl
  match us, hl with
  | [_, _, _], _ => rfl
theorem bn_row_sums : d_row_sums.bn GN := by
  intro kV doc pm an cdv ct us hl
  have hl : us.length = 2 := hl
  match us, hl with
  | [_, _], _ => rfl
theorem bn_begins_with : d_begins_with.bn GN := by
  intro kV doc pm an cdv ct us hl
  have hl : us.length = 2 := hl
  match us, hl with
  | [_, _], _ => rfl
theorem bn__law_like : d__law_like.bn GN := by
  intro kV doc pm an cdv ct us hl
  have hl : us.length = 2 := hl
  match us, hl with
  | [_, _], _ => rfl
theorem bn__law_errors : d__law_errors.bn GN := by
  intro kV doc pm an cdv ct us hl
  have hl : us.length = 0 := hl
  match us, hl with
  | [], _ => rfl
theorem bn__law_rows : d__law_rows.bn GN := by
  intro kV doc pm an cdv ct us hl
  have hl : us.length = 2 := hl
  match us, hl with
  | [_, _], _ => rfl
theorem bn_need_rule : d_need_rule.bn GN := by
  intro kV doc pm an cdv ct us hl
  have hl : us.length = 1 := hl
  match us, hl with
  | [_], _ => rfl
theorem bn_need_whole : d_need_whole.bn GN := by
  intro kV doc pm an cdv ct us hl
  have hl : us.length = 3 := hl
  match us, hl with
  | [_, _, _], _ => rfl
theorem bn_rows_in : d_rows_in.bn GN := by
  intro kV doc pm an cdv ct us hl
  have hl : us.length = 2 := hl
  match us, hl with
  | [_, _], _ => rfl
theorem bn_is_tuple_of : d_is_tuple_of.bn GN := by
  intro kV doc pm an cdv ct us hl
  have hl : us.length = 3 := hl
  match us, hl with
  | [_, _, _], _ => rfl
theorem bn_is_row : d_is_row.bn GN := by
  intro kV doc pm an cdv ct us hl
  have hl : us.length = 2 := hl
  match us, hl with
  | [_, _], _ => rfl
theorem bn__law_sort : d__law_sort.bn GN := by
  intro kV doc pm an cdv ct us hl
  have hl : us.length = 1 := hl
  match us, hl with
  | [_], _ => rfl
theorem bn__law_fails : d__law_fails.bn GN := by
  intro kV doc pm an cdv ct us hl
  have hl : us.length = 1 := hl
  match us, hl with
  | [_], _ => rfl
theorem bn_are_wholes : d_are_wholes.bn GN := by
  intro kV doc pm an cdv ct us hl
  have hl : us.length = 4 := hl
  match us, hl with
  | [_, _, _, _], _ => rfl
theorem bn_is_whole : d_is_whole.bn GN := by
  intro kV doc pm an cdv ct us hl
  have hl : us.length = 3 := hl
  match us, hl with
  | [_, _, _], _ => rfl
theorem bn_next_row : d_next_row.bn GN := by
  intro kV doc pm an cdv ct us hl
  have hl : us.length = 3 := hl
  match us, hl with
  | [_, _, _], _ => rfl
theorem bns : AllBn GN DT := ⟨bn_law, bn__law_cup, bn__law_some, bn__law_roll, bn__law_right, bn_triangle, bn_part_at, bn_row_sums, bn_begins_with, bn__law_like, bn__law_errors, bn__law_rows, bn_need_rule, bn_need_whole, bn_rows_in, bn_is_tuple_of, bn_is_row, bn__law_sort, bn__law_fails, bn_are_wholes, bn_is_whole, bn_next_row, trivial⟩
theorem ck : Ck GN KT DT tg where
  len := by decide +kernel
  lenD := by decide +kernel
  ok := by decide +kernel
  kf := by decide +kernel
  ks := by decide +kernel
  bn := bn_of bns
abbrev R : PySem.W.OpenRow := PySem.W.OpenLaw.row PySem.Challenge.rw_sumsclosed_k57_whole_ruled_triangles
def loose0 : List Str := [(Str.ofString "SumError"), (Str.ofString "InvalidNumber"), (Str.ofString "InvalidRule"), (Str.ofString "is_whole"), (Str.ofString "need_whole"), (Str.ofString "is_tuple_of"), (Str.ofString "are_wholes"), (Str.ofString "PART"), (Str.ofString "DEEP"), (Str.ofString "MANY"), (Str.ofString "need_rule"), (Str.ofString "next_row"), (Str.ofString "rows_in"), (Str.ofString "part_at"), (Str.ofString "triangle"), (Str.ofString "row_sums"), (Str.ofString "is_row"), (Str.ofString "begins_with"), (Str.ofString "_law_cup"), (Str.ofString "_law_roll"), (Str.ofString "_law_some"), (Str.ofString "_law_sort"), (Str.ofString "_law_like"), (Str.ofString "_law_fails"), (Str.ofString "_law_rows"), (Str.ofString "_law_right"), (Str.ofString "_law_errors")]
def loose : List Str := loose0
abbrev hk : PySem.W.Hook := He.hookX 4 [] (fnList GN DT) [] (tfList GN tg) (exF GN KT sub (tfList GN tg))
def ob (s : PySem.W.SharedT) : He.AlX := He.obsX 4 [] (fnList GN DT) [] (tfList GN tg) (exF GN KT sub (tfList GN tg)) (HandSHeadRun.getT s)
theorem ob_eq (s : PySem.W.SharedT) : ob s = hk.obs s.abs := He.obsX_eq (HandSHeadRun.getT_eq s)
theorem run (w : World) : HandSHeadRun.RunEq R (PySem.W.view R.prog [31]) hk ob 8000 loose w := by
  intro os
  kernel_rfl
end Kx
open PySem PySem.W PySem.Calls PyProof.Rows
theorem PySem.Challenge.cw_sumsclosed_k57_whole_ruled_triangles_holds : PySem.Challenge.rw_sumsclosed_k57_whole_ruled_triangles.Holds := by
  w_on; o_law
  refine HandSHeadRun.head_any (r := OpenLaw.row PySem.Challenge.rw_sumsclosed_k57_whole_ruled_triangles) (q := view (OpenLaw.row PySem.Challenge.rw_sumsclosed_k57_whole_ruled_triangles).prog [31]) (H := Kx.hk) (ob := Kx.ob) (M := 8000) (loose := Kx.loose) (d := HandSHeadRun.topDef (OpenLaw.row PySem.Challenge.rw_sumsclosed_k57_whole_ruled_triangles).prog 31) (kwd := []) Kx.ob_eq
    (by kernel_rfl) (fun s => by kernel_rfl) Kx.run (by kernel_rfl) (by kernel_rfl) (by kernel_rfl) (by rfl) (by first | assumption | decide +kernel) (by decide +kernel) ⟨rfl, rfl, rfl, rfl, rfl, by decide +kernel⟩ ?hw ?hc
  case hw => w_witness2
  case hc =>
    refine LamX.walk_ofTsE (l := PySem.Challenge.rw_sumsclosed_k57_whole_ruled_triangles) (n := 63) (k := 3 * 30) (x := "script") (CX := fun w => L2N.CX (PySem.Challenge.rw_sumsclosed_k57_whole_ruled_triangles).prog w) rfl (by decide) (by kernel_rfl) ⟨rfl, by decide, by decide⟩ ?F ?G
    case F =>
      intro w mg fa h Y G hmg0
      obtain ⟨K, KX, c⟩ := Y
      refine ⟨K, KX, Co.law_of (gL := 0) (m := 30) (wf := 4000) (dL := Kx.d_law) Kx.ck KX G c (by rfl) (by rfl) ?_ Kx.law_true⟩
      have e : (HandSHeadRun.topDef (OpenLaw.row PySem.Challenge.rw_sumsclosed_k57_whole_ruled_triangles).prog 31).name = Co.nm Kx.GN 0 := by kernel_rfl
      rw [← e]
      exact hmg0
    case G =>
      intro w H s e s' hh
      obtain ⟨_, _, _, _, _, _, _, _, _, _, _, _, hE⟩ := hh
      exact hE
