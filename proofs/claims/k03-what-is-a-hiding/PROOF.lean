import PyProof.Rows.All
import Wide.All
import OpenK.AllK
import Wide.FinOn
import HandS.ForMost
import HandS.ForExc
import HandS.Walk
import HandS.TupAny
import HandS.Deep
import HandS.IsInst
import HandS.Style
import HandS.Wide
import KE.DataCmp
import KE.SortData
import HandS.HeadHook1
import KE.KDictKeyed
import HandS.CallSlots
import HandS.TupLen
import HandS.More
import HandS.SortKw
import KE.DataMinKey
import HandS.Ends
import HandS.EndBits
import HandS.Defaults
import HandS.Head0
import HandS.Head1
import HandS.Head2
import HandS.HeadEnd
import HandS.HeadHook2
import HandS.HeadHook3
import HandS.HeadHook4
import KE.KStateDown
import KE.IntBitsLaws
import HandS.Zip
import PyProof.TupleOfSeq
import KE.GoesEnum
import KE.GoesMore
import KE.KDictZip
import KE.KDictList
import HandS.ExcInit
import HandS.HotCalls
import HandS.MakeKw
import KE.KExcIs
import KE.KDictPairs
import HandS.Text
import HandS.Replace
import HandS.RaiseMore
import HandS.SetKeys
import HandS.Iter
import HandS.TupMul
import KE.KRevSl
import HandS.Strs
import PyProof.P3In
import KE.GoesZip
import HandS.Conv
import KE.KDictCopyH
import KE.KDictSum
import PySem.Challenge.RW_fleethide_k03_what_is_a_hiding
set_option Elab.async false
set_option linter.all false
set_option maxRecDepth 100000
set_option maxHeartbeats 0
namespace Ev
open PySem PySem.Spec L2
open PyProof.Rows hiding St
def excNames : List Str := ["NoHiding", "NoNumber", "TooMany", "NoCell", "NoShot", "NothingLeft", "NoCounts", "Over", "NoText", "NoRow"]
end Ev
namespace K03
open PySem PySem.Spec L2 Ev
open PyProof.Rows hiding St
def topS (i : Nat) : Stmt := PySem.Challenge.pw_fleethide_k03_what_is_a_hiding.main.body.getD i (.Pass ⟨0, 0, 0, 0⟩)
abbrev s_is_whole : Stmt := topS 3
abbrev s_is_side : Stmt := topS 4
abbrev s_cells_of : Stmt := topS 5
abbrev s_is_on : Stmt := topS 6
abbrev s_is_ship : Stmt := topS 7
abbrev s_reach : Stmt := topS 8
abbrev s_too_near : Stmt := topS 9
abbrev s_keep : Stmt := topS 10
abbrev s_is_hiding : Stmt := topS 11
abbrev s__law_stir : Stmt := topS 13
abbrev s__law_drawn : Stmt := topS 14
abbrev s__law_odd : Stmt := topS 15
abbrev s__law_cells : Stmt := topS 16
abbrev s__law_ships : Stmt := topS 17
abbrev s__law_halo : Stmt := topS 18
abbrev s__law_free : Stmt := topS 20
abbrev s__law_all : Stmt := topS 19
abbrev s__law_game : Stmt := topS 21
abbrev s__law_played : Stmt := topS 22
abbrev s__law_near : Stmt := topS 23
abbrev s_law : Stmt := topS 24
def dd_is_whole : He.DefD := ⟨("is_whole", none), "is_whole", "is_whole", defArgs s_is_whole, defBody s_is_whole, defScope s_is_whole, [], []⟩
def dd_is_side : He.DefD := ⟨("is_side", none), "is_side", "is_side", defArgs s_is_side, defBody s_is_side, defScope s_is_side, [], []⟩
def dd_cells_of : He.DefD := ⟨("cells_of", none), "cells_of", "cells_of", defArgs s_cells_of, defBody s_cells_of, defScope s_cells_of, [], []⟩
def dd_is_on : He.DefD := ⟨("is_on", none), "is_on", "is_on", defArgs s_is_on, defBody s_is_on, defScope s_is_on, [], []⟩
def dd_is_ship : He.DefD := ⟨("is_ship", none), "is_ship", "is_ship", defArgs s_is_ship, defBody s_is_ship, defScope s_is_ship, [], []⟩
def dd_reach : He.DefD := ⟨("reach", none), "reach", "reach", defArgs s_reach, defBody s_reach, defScope s_reach, [], []⟩
def dd_too_near : He.DefD := ⟨("too_near", none), "too_near", "too_near", defArgs s_too_near, defBody s_too_near, defScope s_too_near, [], []⟩
def dd_keep : He.DefD := ⟨("keep", none), "keep", "keep", defArgs s_keep, defBody s_keep, defScope s_keep, [], []⟩
def dd_is_hiding : He.DefD := ⟨("is_hiding", none), "is_hiding", "is_hiding", defArgs s_is_hiding, defBody s_is_hiding, defScope s_is_hiding, [], []⟩
def dd__law_stir : He.DefD := ⟨("_law_stir", none), "_law_stir", "_law_stir", defArgs s__law_stir, defBody s__law_stir, defScope s__law_stir, [], []⟩
def dd__law_drawn : He.DefD := ⟨("_law_drawn", none), "_law_drawn", "_law_drawn", defArgs s__law_drawn, defBody s__law_drawn, defScope s__law_drawn, [], []⟩
def dd__law_odd : He.DefD := ⟨("_law_odd", none), "_law_odd", "_law_odd", defArgs s__law_odd, defBody s__law_odd, defScope s__law_odd, [], []⟩
def dd__law_cells : He.DefD := ⟨("_law_cells", none), "_law_cells", "_law_cells", defArgs s__law_cells, defBody s__law_cells, defScope s__law_cells, [], []⟩
def dd__law_ships : He.DefD := ⟨("_law_ships", none), "_law_ships", "_law_ships", defArgs s__law_ships, defBody s__law_ships, defScope s__law_ships, [], []⟩
def dd__law_halo : He.DefD := ⟨("_law_halo", none), "_law_halo", "_law_halo", defArgs s__law_halo, defBody s__law_halo, defScope s__law_halo, [], []⟩
def dd__law_free : He.DefD := ⟨("_law_free", none), "_law_free", "_law_free", defArgs s__law_free, defBody s__law_free, defScope s__law_free, [], []⟩
def dd__law_all : He.DefD := ⟨("_law_all", none), "_law_all", "_law_all", defArgs s__law_all, defBody s__law_all, defScope s__law_all, [], []⟩
def dd__law_game : He.DefD := ⟨("_law_game", none), "_law_game", "_law_game", defArgs s__law_game, defBody s__law_game, defScope s__law_game, [], []⟩
def dd__law_played : He.DefD := ⟨("_law_played", none), "_law_played", "_law_played", defArgs s__law_played, defBody s__law_played, defScope s__law_played, [], []⟩
def dd__law_near : He.DefD := ⟨("_law_near", none), "_law_near", "_law_near", defArgs s__law_near, defBody s__law_near, defScope s__law_near, [], []⟩
def dd_law : He.DefD := ⟨("law", none), "law", "law", defArgs s_law, defBody s_law, defScope s_law, [], []⟩
def fnL : List He.DefD := [dd_is_whole, dd_is_side, dd_cells_of, dd_is_on, dd_is_ship, dd_reach, dd_too_near, dd_keep, dd_is_hiding, dd__law_stir, dd__law_drawn, dd__law_odd, dd__law_cells, dd__law_ships, dd__law_halo, dd__law_free, dd__law_all, dd__law_game, dd__law_played, dd__law_near, dd_law]
def faL : List He.Fa := [.glo "is_whole", .glo "is_side", .glo "cells_of", .glo "is_on", .glo "is_ship", .glo "reach", .glo "too_near", .glo "keep", .glo "is_hiding", .glo "_law_stir", .glo "_law_drawn", .glo "_law_odd", .glo "_law_cells", .glo "_law_ships", .glo "_law_halo", .glo "_law_free", .glo "_law_all", .glo "_law_game", .glo "_law_played", .glo "_law_near", .glo "law", .int "MOST_SIDE" 8, .glo "WAYS", .free "abs", .free "all", .free "bool", .free "dict", .free "enumerate", .free "int", .free "isinstance", .free "len", .free "list", .free "max", .free "min", .free "range", .free "sorted", .free "str", .free "tuple", .free "zip"]
def exL (K : PySem.W.Frag) : Bool := He.tupB K "WAYS" [.str "along", .str "down"]
abbrev RW : PySem.W.OpenRow := PySem.W.OpenLaw.row PySem.Challenge.rw_fleethide_k03_what_is_a_hiding
abbrev hkL : PySem.W.Hook := He.hookX 5 faL fnL [] [] exL
def obL (s : PySem.W.SharedT) : He.AlX := He.obsX 5 faL fnL [] [] exL (HandSHeadRun.getT s)
theorem obL_eq (s : PySem.W.SharedT) : obL s = hkL.obs s.abs := He.obsX_eq (HandSHeadRun.getT_eq s)
def looseL : List Str := (["MOST_SIDE", "WAYS", "is_whole", "is_side", "cells_of", "is_on", "is_ship", "reach", "too_near", "keep", "is_hiding", "_law_stir", "_law_drawn", "_law_odd", "_law_cells", "_law_ships", "_law_halo", "_law_all", "_law_free", "_law_game"] : List Str) ++ (["_law_played", "_law_near"] : List Str)
theorem runL (w : World) : HandSHeadRun.RunEq RW (PySem.W.view RW.prog [24]) hkL obL 1900 looseL w := by
  intro os
  kernel_rfl
end K03
namespace Ev
open PySem PySem.Spec L2
open PyProof.Rows hiding St
abbrev tupObj (its : List Value) : Obj := { cls := .type "tuple", data := .seq its.toArray }
structure Hg where
  h : Hp
  m : List Addr
abbrev Hg.on (G : Hg) (H : Hp) : Hg := ⟨H, G.m⟩
abbrev Hg.up (G : Hg) (a : Addr) (u : HO) : Hg := ⟨upd G.h a u, G.m⟩
def Ext (G G' : Hg) : Prop := (∀ a o, G.h a = some o → G'.h a = some o ∨ (((∃ kvs, o = .dK kvs) ∨ ∃ kvs, o = .dT kvs) ∧ ∃ ob, G'.h a = some (.frz ob o))) ∧ ∃ l, G'.m = G.m ++ l
def Same (G G' : Hg) : Prop := Ext G G'
section
variable {A B C G G' : Hg} {H H' : Hp}
theorem same_l2 {h' : Hp} (s : L2.Same G.h h') : Same G (G.on h') := And.intro (fun a o h => .inl (s a o h)) ⟨[], by simp⟩
theorem Ext.of (s : Same G G') : Ext G G' := s
theorem Ext.refl (G : Hg) : Ext G G := ⟨fun _ _ h => .inl h, [], by simp⟩
theorem Ext.mkOn (h : ∀ a o, G.h a = some o → H a = some o ∨ (((∃ kvs, o = .dK kvs) ∨ ∃ kvs, o = .dT kvs) ∧ ∃ ob, H a = some (.frz ob o))) : Ext G (G.on H) := ⟨h, [], by simp⟩
theorem Ext.trans (s : Ext A B) (e : Ext B C) : Ext A C := by
 refine ⟨fun a o h => ?_, ?_⟩
 · rcases s.1 a o h with z | ⟨d, ob, z⟩
   · exact e.1 a o z
   · rcases e.1 a _ z with y | ⟨(⟨kvs, q⟩ | ⟨kvs, q⟩), _⟩
     · exact .inr ⟨d, ob, y⟩
     · cases q
     · cases q
 · obtain ⟨l, h1⟩ := s.2
   obtain ⟨l', h2⟩ := e.2
   exact ⟨l ++ l', by rw [h2, h1, List.append_assoc]⟩
theorem Same.refl (G : Hg) : Same G G := Ext.refl G
theorem Same.trans (s : Same A B) (e : Same B C) : Same A C := Ext.trans s e
theorem Same.ext (s : Same A B) (e : Ext B C) : Ext A C := Ext.trans s e
theorem Ext.none (e : Ext G G') {a : Addr} (h : G'.h a = none) : G.h a = none := by
  cases q : G.h a with
  | none => rfl
  | some o =>
    rcases e.1 a o q with z | ⟨_, ob, z⟩ <;> rw [h] at z <;> cases z
theorem Ext.rd (e : Ext G G') {a : Addr} {u : HO} (h : Rd G.h a u) : Rd G'.h a u := by
  rcases h with h | ⟨o, h⟩
  · rcases e.1 a _ h with z | ⟨_, ob, z⟩
    · exact .inl z
    · exact .inr ⟨ob, z⟩
  · rcases e.1 a _ h with z | ⟨(⟨kvs, q⟩ | ⟨kvs, q⟩), ob, z⟩
    · exact .inr ⟨o, z⟩
    · cases q
    · cases q
theorem Ext.tup (e : Ext G G') {a : Addr} {xs : List V} (h : G.h a = some (.tup xs)) : G'.h a = some (.tup xs) := by
  rcases e.1 a _ h with z | ⟨(⟨kvs, q⟩ | ⟨kvs, q⟩), ob, z⟩
  · exact z
  · cases q
  · cases q
theorem Ext.frz (e : Ext G G') {a : Addr} {ob : Obj} {u : HO} (h : G.h a = some (.frz ob u)) : G'.h a = some (.frz ob u) := by
  rcases e.1 a _ h with z | ⟨(⟨kvs, q⟩ | ⟨kvs, q⟩), ob, z⟩
  · exact z
  · cases q
  · cases q
theorem Ext.sqT {K : PySem.W.Frag} (e : Ext G G') {a : Addr} {xs : List V} (h : SqT K G.h a xs) : SqT K G'.h a xs := by
  rcases h with h | h
  · exact .inl (e.rd h)
  · exact .inr h
theorem Ext.sqL {K : PySem.W.Frag} (e : Ext G G') {a : Addr} {xs : List V} (h : SqL K G.h a xs) : SqL K G'.h a xs := by
  rcases h with h | h
  · exact .inl (e.rd h)
  · exact .inr h
theorem Ext.on (e : Ext A (B.on H)) : Ext A (A.on H) := ⟨e.1, [], by simp⟩
theorem Ext.hd (e : Ext G G') {n : Nat} {a : Addr} (h : G.m[n]? = some a) : G'.m[n]? = some a := by
  obtain ⟨l, q⟩ := e.2
  rw [q, List.getElem?_append_left (List.getElem?_eq_some_iff.mp h).1]
  exact h
end
def hdl (n : Nat) : PyData := .dict [(.none, .int (Int.ofNat n))]
theorem hdl_inj {n m : Nat} (h : hdl n = hdl m) : n = m := by
  unfold hdl at h
  injection h with h
  injection h with h _
  injection h with _ h
  injection h with h
  exact Int.ofNat.inj h
def isK : List (PyData × PyData) → Bool
  | (.none, _) :: _ => false
  | _ => true
def isT : List (PyData × PyData) → Bool
  | (.none, .none) :: _ => true
  | _ => false
def kD : Key → PyData
  | .inl i => .int i
  | .inr x => .str x
def ktD (ks : List Key) : PyData := .tuple (ks.map kD)
def T3 (K : PySem.W.Frag) : Prop := He.ga K "Plans" = 0 ∨ ¬ He.ga K "Answerer" = 0
mutual

inductive Rp (K : PySem.W.Frag) (H : Hg) : V → PyData → Prop
  | non : Rp K H .non .none
  | bl (b : Bool) : Rp K H (.bl b) (.bool b)
  | int (i : Int) : Rp K H (.int i) (.int i)
  | str (x : Str) : Rp K H (.str x) (.str x)
  | lst {a : Addr} {xs : List V} {ds : List PyData} : SqL K H.h a xs → RpAll K H xs ds → Rp K H (.ref a) (.list ds)
  | tup {a : Addr} {xs : List V} {ds : List PyData} : H.h a = some (.tup xs) → RpAll K H xs ds → Rp K H (.ref a) (.tuple ds)
  | tup3 {a : Addr} {xs : List V} {ds : List PyData} {its : List Value} : T3 K → H.h a = some (.frz (tupObj its) (.tup xs)) → ds.length = 3 → RpAll K H xs ds → Rp K H (.ref a) (.tuple ds)
  | tupK {a : Addr} {xs : List Str} : SqT K H.h a (xs.map V.str) → xs ≠ [] → Rp K H (.ref a) (.tuple (xs.map PyData.str))
  | dk {a : Addr} {kvs : List (Key × V)} {ds : List PyData} : Rd H.h a (.dK kvs) → RpAll K H (kvs.map (·.2)) ds → Rp K H (.ref a) (.dict ((kvs.map fun p => kD p.1).zip ds))
  | dt {a : Addr} {kvs : List (List Key × V)} {ds : List PyData} : Rd H.h a (.dT kvs) → RpAll K H (kvs.map (·.2)) ds → Rp K H (.ref a) (.dict ((.none, .none) :: (kvs.map fun p => ktD p.1).zip ds))
  | hd {a : Addr} {n : Nat} : H.m[n]? = some a → Rp K H (.ref a) (hdl n)
inductive RpAll (K : PySem.W.Frag) (H : Hg) : List V → List PyData → Prop
  | nil : RpAll K H [] []
  | cons {v : V} {vs : List V} {d : PyData} {ds : List PyData} : Rp K H v d → RpAll K H vs ds → RpAll K H (v :: vs) (d :: ds)
end
section
variable {K : PySem.W.Frag} {H H' : Hg}
mutual
theorem Rp.mono (e : Ext H H') : ∀ {v : V} {d : PyData}, Rp K H v d → Rp K H' v d
  | _, _, .non => .non
  | _, _, .bl b => .bl b
  | _, _, .int i => .int i
  | _, _, .str x => .str x
  | _, _, .lst h r => .lst (e.sqL h) (RpAll.mono e r)
  | _, _, .tup h r => .tup (e.tup h) (RpAll.mono e r)
  | _, _, .tup3 t h l r => .tup3 t (e.frz h) l (RpAll.mono e r)
  | _, _, .tupK h n => .tupK (e.sqT h) n
  | _, _, .dk h r => .dk (e.rd h) (RpAll.mono e r)
  | _, _, .dt h r => .dt (e.rd h) (RpAll.mono e r)
  | _, _, .hd h => .hd (e.hd h)
theorem RpAll.mono (e : Ext H H') : ∀ {vs : List V} {ds : List PyData}, RpAll K H vs ds → RpAll K H' vs ds
  | _, _, .nil => .nil
  | _, _, .cons h r => .cons (Rp.mono e h) (RpAll.mono e r)
end
theorem RpAll.len : ∀ {vs : List V} {ds : List PyData}, RpAll K H vs ds → vs.length = ds.length
  | _, _, .nil => rfl
  | _, _, .cons _ r => congrArg (· + 1) r.len
theorem RpAll.get : ∀ {vs : List V} {ds : List PyData} {i : Nat} {d : PyData}, RpAll K H vs ds → ds[i]? = some d → ∃ v, vs[i]? = some v ∧ Rp K H v d
  | _, _, _, _, .nil, e => by simp at e
  | _, _, 0, _, .cons h _, e => by simp at e; subst e; exact ⟨_, rfl, h⟩
  | _, _, i + 1, d, .cons _ r, e => by
    obtain ⟨v, h1, h2⟩ := RpAll.get (i := i) (d := d) r (by simpa using e)
    exact ⟨v, by simpa using h1, h2⟩
theorem RpAll.get' : ∀ {vs : List V} {ds : List PyData} {i : Nat} {v : V}, RpAll K H vs ds → vs[i]? = some v → ∃ d, ds[i]? = some d ∧ Rp K H v d
  | _, _, _, _, .nil, e => by simp at e
  | _, _, 0, _, .cons h _, e => by simp at e; subst e; exact ⟨_, rfl, h⟩
  | _, _, i + 1, d, .cons _ r, e => by
    obtain ⟨v, h1, h2⟩ := RpAll.get' (i := i) r (by simpa using e)
    exact ⟨v, by simpa using h1, h2⟩
theorem RpAll.append : ∀ {vs ws : List V} {ds es : List PyData}, RpAll K H vs ds → RpAll K H ws es → RpAll K H (vs ++ ws) (ds ++ es)
  | _, _, _, _, .nil, s => s
  | _, _, _, _, .cons h r, s => .cons h (r.append s)
theorem RpAll.take : ∀ {vs : List V} {ds : List PyData} (n : Nat), RpAll K H vs ds → RpAll K H (vs.take n) (ds.take n)
  | _, _, 0, _ => .nil
  | _, _, _ + 1, .nil => .nil
  | _, _, n + 1, .cons h r => .cons h (r.take n)
theorem RpAll.drop : ∀ {vs : List V} {ds : List PyData} (n : Nat), RpAll K H vs ds → RpAll K H (vs.drop n) (ds.drop n)
  | _, _, 0, r => r
  | _, _, _ + 1, .nil => .nil
  | _, _, n + 1, .cons _ r => r.drop n
theorem RpAll.snoc {vs : List V} {ds : List PyData} {v : V} {d : PyData} (r : RpAll K H vs ds) (h : Rp K H v d) : RpAll K H (vs ++ [v]) (ds ++ [d]) := r.append (.cons h .nil)
theorem RpAll.reverse : ∀ {vs : List V} {ds : List PyData}, RpAll K H vs ds → RpAll K H vs.reverse ds.reverse
  | _, _, .nil => .nil
  | _, _, .cons h r => by rw [List.reverse_cons, List.reverse_cons]; exact r.reverse.snoc h
theorem RpAll.strs : ∀ (xs : List Str), RpAll K H (xs.map V.str) (xs.map PyData.str)
  | [] => .nil
  | x :: xs => .cons (.str x) (RpAll.strs xs)
theorem RpAll.ints : ∀ (xs : List Int), RpAll K H (xs.map V.int) (xs.map PyData.int)
  | [] => .nil
  | x :: xs => .cons (.int x) (RpAll.ints xs)
theorem Rp.sqT {v : V} {ds : List PyData} (h : Rp K H v (.tuple ds)) : ∃ a xs, v = .ref a ∧ SqT K H.h a xs ∧ RpAll K H xs ds := by
  cases h with
  | tup h r => exact ⟨_, _, rfl, SqT.of h, r⟩
  | tup3 _ h l r => exact ⟨_, _, rfl, .inl (.inr ⟨_, h⟩), r⟩
  | tupK h n => exact ⟨_, _, rfl, h, RpAll.strs _⟩
theorem Rp.hdl {v : V} {n : Nat} (h : Rp K H v (Ev.hdl n)) : ∃ a, v = .ref a ∧ H.m[n]? = some a := by
  generalize hd : Ev.hdl n = d at h
  cases h with
  | @hd a n' h => exact ⟨a, rfl, by rw [hdl_inj hd]; exact h⟩
  | @dk a kvs ds h r =>
    unfold Ev.hdl at hd
    exfalso
    cases kvs with
    | nil => cases ds <;> simp at hd
    | cons p kvs =>
      cases ds with
      | nil => simp at hd
      | cons d ds =>
        simp only [List.map_cons, List.zip_cons_cons, PyData.dict.injEq, List.cons.injEq, Prod.mk.injEq] at hd
        obtain ⟨⟨h1, _⟩, _⟩ := hd
        obtain ⟨k, v⟩ := p
        cases k <;> cases h1
  | dt h r => unfold Ev.hdl at hd; simp at hd
  | non => cases hd
  | bl => cases hd
  | int => cases hd
  | str => cases hd
  | lst => cases hd
  | tup => cases hd
  | tup3 => cases hd
  | tupK => cases hd
theorem Rp.sqL {v : V} {ds : List PyData} (h : Rp K H v (.list ds)) : ∃ a xs, v = .ref a ∧ SqL K H.h a xs ∧ RpAll K H xs ds := by
  cases h with
  | lst h r => exact ⟨_, _, rfl, h, r⟩
mutual

theorem Rp.dp : ∀ {v : V} {d : PyData}, Rp K H v d → d.canLay0 = true → Dp K H.h v d
  | _, _, .non, _ => .non
  | _, _, .bl b, _ => .bl b
  | _, _, .int i, _ => .int i
  | _, _, .str x, _ => .str x
  | _, _, .lst h r, c => .lst h (RpAll.dp r (by simpa [PyData.canLay0] using c))
  | _, _, .tup h r, c => .tup (SqT.of h) (RpAll.dp r (by simpa [PyData.canLay0] using c))
  | _, _, .tup3 _ h l r, c => .tup (.inl (.inr ⟨_, h⟩)) (RpAll.dp r (by simpa [PyData.canLay0] using c))
  | _, _, .tupK (xs := xs) h n, c => .tup h (RpAll.dp (RpAll.strs xs) (by simpa [PyData.canLay0] using c))
  | _, _, .dk h r, c => by simp [PyData.canLay0] at c
  | _, _, .dt h r, c => by simp [PyData.canLay0] at c
  | _, _, .hd h, c => by simp [hdl, PyData.canLay0] at c
theorem RpAll.dp : ∀ {vs : List V} {ds : List PyData}, RpAll K H vs ds → PyData.canLayAll0 ds = true → DpAll K H.h vs ds
  | _, _, .nil, _ => .nil
  | _, _, .cons h r, c => by
    rw [PyData.canLayAll0, Bool.and_eq_true] at c
    exact .cons (Rp.dp h c.1) (RpAll.dp r c.2)
end
end
inductive OV where
  | sh (d : PyData)
  | lst (xs : List OV)
  | dk (kvs : List (Key × OV))
  | dt (kvs : List (List Key × OV))
  | tup (xs : List OV)
instance : Inhabited OV := ⟨.sh .none⟩
mutual

def fz : OV → PyData
  | .sh d => d
  | .lst xs => .list (fzs xs)
  | .dk kvs => .dict (fzk kvs)
  | .dt kvs => .dict ((.none, .none) :: fzt kvs)
  | .tup xs => .tuple (fzs xs)
def fzs : List OV → List PyData
  | [] => []
  | x :: xs => fz x :: fzs xs
def fzk : List (Key × OV) → List (PyData × PyData)
  | [] => []
  | (k, x) :: xs => (kD k, fz x) :: fzk xs
def fzt : List (List Key × OV) → List (PyData × PyData)
  | [] => []
  | (k, x) :: xs => (ktD k, fz x) :: fzt xs
end
theorem fzs_eq : ∀ xs, fzs xs = xs.map fz
  | [] => by simp [fzs]
  | x :: xs => by simp [fzs, fzs_eq xs]
theorem fzk_eq : ∀ xs, fzk xs = xs.map fun p => (kD p.1, fz p.2)
  | [] => by simp [fzk]
  | (k, x) :: xs => by simp [fzk, fzk_eq xs]
theorem fzt_eq : ∀ xs, fzt xs = xs.map fun p => (ktD p.1, fz p.2)
  | [] => by simp [fzt]
  | (k, x) :: xs => by simp [fzt, fzt_eq xs]
abbrev Bs := List (Addr × HO)
mutual

inductive Own (K : PySem.W.Frag) (Hf : Hg) : V → OV → Bs → Prop
  | sh {v : V} {d : PyData} : Rp K Hf v d → Own K Hf v (.sh d) []
  | lst {a : Addr} {vs : List V} {os : List OV} {bs : Bs} : OwnL K Hf vs os bs → Own K Hf (.ref a) (.lst os) ((a, .lst vs) :: bs)
  | dk {a : Addr} {ks : List Key} {vs : List V} {os : List OV} {bs : Bs} : ks.length = vs.length → ks.Nodup → OwnL K Hf vs os bs → Own K Hf (.ref a) (.dk (ks.zip os)) ((a, .dK (ks.zip vs)) :: bs)
  | dt {a : Addr} {ks : List (List Key)} {vs : List V} {os : List OV} {bs : Bs} : ks.length = vs.length → ks.Nodup → OwnL K Hf vs os bs → Own K Hf (.ref a) (.dt (ks.zip os)) ((a, .dT (ks.zip vs)) :: bs)
  | tup {a : Addr} {vs : List V} {os : List OV} {bs : Bs} : os.length ≠ 3 → OwnL K Hf vs os bs → Own K Hf (.ref a) (.tup os) ((a, .tup vs) :: bs)
  | tup3 {a : Addr} {vs : List V} {os : List OV} {bs : Bs} {its : List Value} : T3 K → os.length = 3 → OwnL K Hf vs os bs → Own K Hf (.ref a) (.tup os) ((a, .frz (tupObj its) (.tup vs)) :: bs)
inductive OwnL (K : PySem.W.Frag) (Hf : Hg) : List V → List OV → Bs → Prop
  | nil : OwnL K Hf [] [] []
  | cons {v : V} {vs : List V} {o : OV} {os : List OV} {b1 b2 : Bs} : Own K Hf v o b1 → OwnL K Hf vs os b2 → OwnL K Hf (v :: vs) (o :: os) (b1 ++ b2)
end
section
variable {K : PySem.W.Frag} {H H' : Hg}
mutual
theorem Own.mono (e : Ext H H') : ∀ {v : V} {o : OV} {bs : Bs}, Own K H v o bs → Own K H' v o bs
  | _, _, _, .sh h => .sh (h.mono e)
  | _, _, _, .lst h => .lst (OwnL.mono e h)
  | _, _, _, .dk l n h => .dk l n (OwnL.mono e h)
  | _, _, _, .dt l n h => .dt l n (OwnL.mono e h)
  | _, _, _, .tup n h => .tup n (OwnL.mono e h)
  | _, _, _, .tup3 t n h => .tup3 t n (OwnL.mono e h)
theorem OwnL.mono (e : Ext H H') : ∀ {vs : List V} {os : List OV} {bs : Bs}, OwnL K H vs os bs → OwnL K H' vs os bs
  | _, _, _, .nil => .nil
  | _, _, _, .cons h r => .cons (Own.mono e h) (OwnL.mono e r)
end
theorem OwnL.len : ∀ {vs : List V} {os : List OV} {bs : Bs}, OwnL K H vs os bs → vs.length = os.length
  | _, _, _, .nil => rfl
  | _, _, _, .cons _ r => congrArg (· + 1) r.len
theorem OwnL.append : ∀ {vs ws : List V} {os ps : List OV} {bs cs : Bs}, OwnL K H vs os bs → OwnL K H ws ps cs → OwnL K H (vs ++ ws) (os ++ ps) (bs ++ cs)
  | _, _, _, _, _, _, .nil, s => s
  | _, _, _, _, _, _, .cons h r, s => by
    rw [List.append_assoc]
    exact .cons h (r.append s)
theorem OwnL.of_rp : ∀ {vs : List V} {ds : List PyData}, RpAll K H vs ds → OwnL K H vs (ds.map .sh) []
  | _, _, .nil => .nil
  | _, _, .cons h r => .cons (b1 := []) (b2 := []) (.sh h) (OwnL.of_rp r)
theorem OwnL.to_rp : ∀ {vs : List V} {ds : List PyData} {bs : Bs}, OwnL K H vs (ds.map .sh) bs → RpAll K H vs ds ∧ bs = []
  | _, [], _, .nil => ⟨.nil, rfl⟩
  | _, d :: ds, _, .cons (.sh h) r => by
    obtain ⟨h2, e⟩ := OwnL.to_rp r
    exact ⟨.cons h h2, by rw [e]; rfl⟩
theorem OwnL.split : ∀ {vs : List V} {os : List OV} {bs : Bs} {i : Nat} {o : OV}, OwnL K H vs os bs → os[i]? = some o →
    ∃ v b0 b1 b2, vs[i]? = some v ∧ bs = b0 ++ b1 ++ b2 ∧ Own K H v o b1 ∧ (∀ o' b' v', Own K H v' o' b' → OwnL K H (vs.set i v') (os.set i o') (b0 ++ b' ++ b2))
  | _, _, _, _, _, .nil, e => by simp at e
  | _, _, _, 0, _, .cons (b1 := b1) (b2 := b2) h r, e => by
    simp at e; subst e
    exact ⟨_, [], b1, b2, rfl, by simp, h, fun o' b' v' q => by simpa using OwnL.cons q r⟩
  | _, _, _, i + 1, o, .cons (b1 := c1) (b2 := c2) h r, e => by
    obtain ⟨v, b0, b1, b2, e1, e2, q, f⟩ := OwnL.split (i := i) (o := o) r (by simpa using e)
    refine ⟨v, c1 ++ b0, b1, b2, by simpa using e1, by rw [e2]; simp, q, fun o' b' v' q' => ?_⟩
    have := OwnL.cons h (f o' b' v' q')
    simpa using this
end
abbrev Its := List (V × OV)
inductive OwnI (K : PySem.W.Frag) (Hf : Hg) : Its → Bs → Prop
  | nil : OwnI K Hf [] []
  | cons {v : V} {o : OV} {its : Its} {b1 b2 : Bs} : Own K Hf v o b1 → OwnI K Hf its b2 → OwnI K Hf ((v, o) :: its) (b1 ++ b2)
section
variable {K : PySem.W.Frag} {H H' : Hg}
theorem OwnI.mono (e : Ext H H') : ∀ {its : Its} {bs : Bs}, OwnI K H its bs → OwnI K H' its bs
  | _, _, .nil => .nil
  | _, _, .cons h r => .cons (h.mono e) (r.mono e)
theorem OwnI.append : ∀ {A B : Its} {bs cs : Bs}, OwnI K H A bs → OwnI K H B cs → OwnI K H (A ++ B) (bs ++ cs)
  | _, _, _, _, .nil, s => s
  | _, _, _, _, .cons h r, s => by
    rw [List.append_assoc]
    exact .cons h (r.append s)
theorem OwnI.split : ∀ {A B : Its} {bs : Bs}, OwnI K H (A ++ B) bs → ∃ b1 b2, bs = b1 ++ b2 ∧ OwnI K H A b1 ∧ OwnI K H B b2
  | [], _, bs, h => ⟨[], bs, rfl, .nil, h⟩
  | (v, o) :: A, B, _, .cons (b1 := c1) h r => by
    obtain ⟨b1, b2, e, h1, h2⟩ := OwnI.split (A := A) (B := B) r
    exact ⟨c1 ++ b1, b2, by rw [e, List.append_assoc], .cons h h1, h2⟩
theorem OwnI.perm {A B : Its} (p : A.Perm B) : ∀ {bs : Bs}, OwnI K H A bs → ∃ cs, bs.Perm cs ∧ OwnI K H B cs := by
  induction p with
  | nil => exact fun h => ⟨_, .refl _, h⟩
  | cons x _ ih =>
    intro bs h
    cases h with
    | cons h r =>
      obtain ⟨cs, q, r'⟩ := ih r
      exact ⟨_, q.append_left _, .cons h r'⟩
  | swap x y l =>
    intro bs h
    cases h with
    | cons h r =>
      cases r with
      | cons h' r' =>
        refine ⟨_, ?_, .cons h' (.cons h r')⟩
        rw [← List.append_assoc, ← List.append_assoc]
        exact (List.perm_append_comm).append_right _
  | trans _ _ ih1 ih2 =>
    intro bs h
    obtain ⟨cs, q, r⟩ := ih1 h
    obtain ⟨ds, q', r'⟩ := ih2 r
    exact ⟨ds, q.trans q', r'⟩
theorem OwnL.its : ∀ {vs : List V} {os : List OV} {bs : Bs}, OwnL K H vs os bs → OwnI K H (vs.zip os) bs
  | _, _, _, .nil => .nil
  | _, _, _, .cons h r => .cons h r.its
theorem OwnI.lst : ∀ {vs : List V} {os : List OV} {bs : Bs}, vs.length = os.length → OwnI K H (vs.zip os) bs → OwnL K H vs os bs
  | [], [], _, _, .nil => .nil
  | _ :: vs, _ :: os, _, l, .cons h r => .cons h (OwnI.lst (by simpa using l) r)
end
structure Fr where
  b : Bs
  m : List Addr
@[reducible] def fr (F : Bs) (m : List Addr) : Fr := ⟨F, m⟩
instance : HAppend Bs Fr Fr := ⟨fun a F => ⟨a ++ F.b, F.m⟩⟩
def Fre (G : Hg) (p : Addr × HO) : Prop := G.h p.1 = none ∨ ∃ xs, p.2 = .tup xs ∧ G.h p.1 = some (.tup xs)
theorem Fre.no {G : Hg} {a : Addr} {u : HO} (h : Fre G (a, u)) (nt : ∀ xs, u ≠ .tup xs) : G.h a = none := by
  rcases h with h | ⟨xs, e, _⟩
  · exact h
  · exact absurd e (nt xs)
theorem Fre.to {G G' : Hg} {p : Addr × HO} (h : Fre G p) (e : G'.h p.1 = G.h p.1) : Fre G' p := by
  unfold Fre
  rw [e]; exact h
theorem Fre.ne {G : Hg} {p : Addr × HO} {a : Addr} {u : HO} (h : Fre G p) (k : G.h a = some u) (nt : ∀ xs, u ≠ .tup xs) : p.1 ≠ a := fun z => by
  rcases h with h | ⟨xs, _, h⟩
  · rw [z, k] at h; cases h
  · rw [z, k] at h; exact nt xs (Option.some.inj h)
structure SX (K : PySem.W.Frag) (Hf : Hg) (its : Its) (F : Fr) (H : Hp) : Prop where
  ex : ∃ bs, OwnI K Hf its bs ∧ ((bs ++ F.b).map (·.1)).Nodup ∧ ∀ p ∈ bs ++ F.b, H p.1 = some p.2 ∧ Fre Hf p
  sub : Ext Hf (Hf.on H)
  mm : Hf.m = F.m
section
variable {K : PySem.W.Frag} {Hf Hf' : Hg} {H H' : Hp} {its A B : Its} {F : Fr} {bs : Bs} {v w : V} {o : OV} {d : PyData} {p : Addr}
theorem nodup_perm {l m : Bs} (q : l.Perm m) (h : (l.map (·.1)).Nodup) : (m.map (·.1)).Nodup := (q.map _).nodup_iff.mp h
theorem SX.perm (s : SX K Hf A F H) (q : A.Perm B) : SX K Hf B F H := by
  obtain ⟨⟨bs, h, n, a⟩, e, mm⟩ := s
  obtain ⟨cs, qc, h'⟩ := h.perm q
  exact ⟨⟨cs, h', nodup_perm (qc.append_right F.b) n, fun p hp => a p ((qc.append_right F.b).mem_iff.mpr hp)⟩, e, mm⟩
theorem SX.tail (s : SX K Hf (A ++ B) F H) : SX K Hf B F H := by
  obtain ⟨⟨bs, h, n, a⟩, e, mm⟩ := s
  obtain ⟨b1, b2, rfl, h1, h2⟩ := h.split
  refine ⟨⟨b2, h2, ?_, fun p hp => a p ?_⟩, e, mm⟩
  · rw [List.append_assoc, List.map_append] at n
    exact (List.nodup_append.mp n).2.1
  · rw [List.append_assoc]
    exact List.mem_append_right _ hp
theorem SX.drop (s : SX K Hf ((v, o) :: its) F H) : SX K Hf its F H := SX.tail (A := [(v, o)]) s
theorem SX.head (s : SX K Hf (A ++ B) F H) : SX K Hf A F H := SX.tail (A := B) (B := A) (s.perm List.perm_append_comm)
theorem SX.frPerm {F1 F2 : Bs} {m : List Addr} (s : SX K Hf A (fr F1 m) H) (q : F1.Perm F2) : SX K Hf A (fr F2 m) H := by
  obtain ⟨⟨bs, h, n, a⟩, e, mm⟩ := s
  exact ⟨⟨bs, h, nodup_perm (q.append_left bs) n, fun p hp => a p ((q.append_left bs).mem_iff.mpr hp)⟩, e, mm⟩
theorem SX.frame (s : SX K Hf (A ++ B) F H) : ∃ bs, OwnI K Hf B bs ∧ SX K Hf A (bs ++ F) H := by
  obtain ⟨⟨bs, h, n, a⟩, e, mm⟩ := s
  obtain ⟨b1, b2, rfl, h1, h2⟩ := h.split
  rw [List.append_assoc] at n a
  exact ⟨b2, h2, ⟨b1, h1, n, a⟩, e, mm⟩
theorem SX.unframe (s : SX K Hf A (bs ++ F) H) (h : OwnI K Hf B bs) : SX K Hf (A ++ B) F H := by
  obtain ⟨⟨b1, h1, n, a⟩, e, mm⟩ := s
  have n : ((b1 ++ (bs ++ F.b)).map (·.1)).Nodup := n
  have a : ∀ p ∈ b1 ++ (bs ++ F.b), H p.1 = some p.2 ∧ Fre Hf p := a
  rw [← List.append_assoc] at n a
  exact ⟨⟨b1 ++ bs, h1.append h, n, a⟩, e, mm⟩
theorem SX.nil (e : Ext Hf (Hf.on H)) : SX K Hf [] (fr [] Hf.m) H := ⟨⟨[], .nil, by simp, fun p hp => by cases hp⟩, e, rfl⟩
theorem SX.add (s : SX K Hf its F H) (r : Rp K Hf v d) : SX K Hf ((v, .sh d) :: its) F H := by
  obtain ⟨⟨bs, h, n, a⟩, e, mm⟩ := s
  exact ⟨⟨[] ++ bs, .cons (.sh r) h, by simpa using n, fun p hp => a p (by simpa using hp)⟩, e, mm⟩
theorem SX.rp (s : SX K Hf ((v, .sh d) :: its) F H) : Rp K Hf v d := by
  obtain ⟨⟨bs, h, n, a⟩, e, mm⟩ := s
  cases h with
  | cons h _ => cases h; assumption
theorem SX.no (s : SX K Hf its F H) (h : H p = none) : Hf.h p = none := s.sub.none h
theorem SX.new {u : HO} (s : SX K Hf its F H) (hp : H p = Option.none) : SX K (Hf.up p u) its F (upd H p u) ∧ Same Hf (Hf.up p u) := by
  obtain ⟨⟨bs, h, n, a⟩, e, mm⟩ := s
  have sm : Same Hf (Hf.up p u) := same_l2 fun b x q => by rw [upd_ne (ne_of_none q (e.none hp))]; exact q
  refine ⟨⟨⟨bs, h.mono (.of sm), n, fun q hq => ?_⟩, Ext.mkOn fun b x q => ?_, mm⟩, sm⟩
  · have hne : q.1 ≠ p := ne_of_none (a q hq).1 hp
    refine ⟨?_, (a q hq).2.to (upd_ne hne)⟩
    show upd H p u q.1 = _
    rw [upd_ne hne]
    exact (a q hq).1
  · have q : upd Hf.h p u b = some x := q
    by_cases hb : b = p
    · subst hb; rw [upd_same] at q ⊢; exact .inl q
    · rw [upd_ne hb] at q
      rw [upd_ne hb]
      exact e.1 b x q
theorem SX.newOwn {u : HO} {C : Its} {o : OV} (s : SX K Hf (C ++ its) F H) (hp : H p = Option.none) (mk : ∀ bs, OwnI K Hf C bs → Own K Hf (.ref p) o ((p, u) :: bs)) : SX K Hf ((.ref p, o) :: its) F (upd H p u) := by
  obtain ⟨⟨bs, h, n, a⟩, e, mm⟩ := s
  obtain ⟨b1, b2, rfl, h1, h2⟩ := h.split
  have ne : ∀ q ∈ (b1 ++ b2) ++ F.b, q.1 ≠ p := fun q hq => ne_of_none (a q hq).1 hp
  refine ⟨⟨((p, u) :: b1) ++ b2, .cons (mk b1 h1) h2, ?_, fun q hq => ?_⟩, Ext.mkOn fun b x q => ?_, mm⟩
  · show (p :: ((b1 ++ b2 ++ F.b).map (·.1))).Nodup
    refine List.nodup_cons.mpr ⟨fun hm => ?_, n⟩
    obtain ⟨q, hq, e⟩ := List.mem_map.mp hm
    exact ne q hq e
  · rcases List.mem_cons.mp hq with rfl | hq
    · exact ⟨upd_same, .inl (e.none hp)⟩
    · rw [upd_ne (ne q hq)]; exact a q hq
  · have hb : b ≠ p := ne_of_none q (e.none hp)
    rw [upd_ne hb]; exact e.1 b x q
theorem SX.chg {C : Its} {a : Addr} {o' : OV} (R : HO → HO → Prop) (nt : ∀ u u', R u u' → ∀ xs, u ≠ .tup xs) (s : SX K Hf ((.ref a, o) :: (C ++ its)) F H)
    (ho : ∀ bs, Own K Hf (.ref a) o bs → ∃ u bs0, bs = (a, u) :: bs0 ∧ ∀ c1, OwnI K Hf C c1 → ∃ u' cs dr, (cs ++ dr).Perm (bs0 ++ c1) ∧ Own K Hf (.ref a) o' ((a, u') :: cs) ∧ R u u') :
    ∃ u u', H a = some u ∧ R u u' ∧ SX K Hf ((.ref a, o') :: its) F (upd H a u') := by
  obtain ⟨⟨bs, h, n, al⟩, e, mm⟩ := s
  cases h with
  | cons h r =>
    obtain ⟨u, bs0, e1, hu⟩ := ho _ h
    subst e1
    obtain ⟨c1, c2, rfl, h1, h2⟩ := r.split
    obtain ⟨u', cs, dr, q, hn, hR⟩ := hu c1 h1
    have P : ((((a, u') :: (cs ++ dr)) ++ c2 ++ F.b).map (·.1)).Perm ((((a, u) :: bs0) ++ (c1 ++ c2) ++ F.b).map (·.1)) := by
      have q2 : ((cs ++ dr) ++ c2 ++ F.b).Perm (bs0 ++ (c1 ++ c2) ++ F.b) := by
        have := (q.append_right c2).append_right F.b
        simpa [List.append_assoc] using this
      simpa using List.Perm.cons a (q2.map (·.1))
    have nd1 : ((((a, u') :: (cs ++ dr)) ++ c2 ++ F.b).map (·.1)).Nodup := P.nodup_iff.mpr n
    have sl : (((a, u') :: cs) ++ c2 ++ F.b).Sublist (((a, u') :: (cs ++ dr)) ++ c2 ++ F.b) := by
      refine List.Sublist.append_right (List.Sublist.append_right ?_ _) _
      exact List.Sublist.cons_cons _ (List.sublist_append_left _ _)
    have nd : ((((a, u') :: cs) ++ c2 ++ F.b).map (·.1)).Nodup := nd1.sublist (sl.map _)
    have h0 := al (a, u) (by simp)
    refine ⟨u, u', h0.1, hR, ⟨((a, u') :: cs) ++ c2, .cons hn h2, nd, fun z hz => ?_⟩, Ext.mkOn fun b x z => ?_, mm⟩
    · rcases List.mem_cons.mp hz with rfl | hz
      · exact ⟨upd_same, .inl (h0.2.no (nt _ _ hR))⟩
      · have ne : z.1 ≠ a := fun e => by
          have : a ∉ (cs ++ c2 ++ F.b).map (·.1) := (List.nodup_cons.mp nd).1
          exact this (List.mem_map.mpr ⟨z, hz, e⟩)
        rw [upd_ne ne]
        refine al z ?_
        have hz' : z ∈ cs ++ (c2 ++ F.b) := by rw [← List.append_assoc]; exact hz
        rcases List.mem_append.mp hz' with hz' | hz'
        · have := q.mem_iff.mp (List.mem_append_left dr hz')
          rcases List.mem_append.mp this with m | m <;> simp [m]
        · rcases List.mem_append.mp hz' with m | m <;> simp [m]
    · have ne : b ≠ a := fun z' => by
        have := h0.2.no (nt _ _ hR)
        rw [← z', z] at this; cases this
      rw [upd_ne ne]; exact e.1 b x z
theorem SX.push {a : Addr} {os : List OV} (s : SX K Hf ((.ref a, .lst os) :: (v, o) :: its) F H) : ∃ vs, vs.length = os.length ∧ H a = some (.lst vs) ∧ SX K Hf ((.ref a, .lst (os ++ [o])) :: its) F (upd H a (.lst (vs ++ [v]))) := by
  obtain ⟨u, u', h1, ⟨vs, rfl, rfl, hl⟩, h2⟩ := SX.chg (C := [(v, o)]) (o' := .lst (os ++ [o])) (fun u u' => ∃ vs, u = .lst vs ∧ u' = .lst (vs ++ [v]) ∧ vs.length = os.length) (by rintro _ _ ⟨_, rfl, _⟩ _ h; cases h) s (fun bs q => by
    cases q with
    | @lst _ vs _ b0 q =>
      refine ⟨_, _, rfl, fun c1 hc => ?_⟩
      cases hc with
      | cons hc hr =>
        cases hr
        exact ⟨.lst (vs ++ [v]), _, [], by rw [List.append_nil (_ ++ (_ ++ []))], .lst (q.append (.cons hc .nil)), vs, rfl, rfl, q.len⟩)
  exact ⟨vs, hl, h1, h2⟩
theorem SX.lstAt {a : Addr} {os : List OV} (s : SX K Hf ((.ref a, .lst os) :: its) F H) : ∃ vs, vs.length = os.length ∧ H a = some (.lst vs) := by
  obtain ⟨⟨bs, h, n, al⟩, e, mm⟩ := s
  cases h with
  | cons h r =>
    cases h with
    | @lst _ vs _ b0 q => exact ⟨vs, q.len, (al (a, .lst vs) (by simp)).1⟩
theorem SX.lstRef {os : List OV} (s : SX K Hf ((v, .lst os) :: its) F H) : ∃ a, v = .ref a := by
  obtain ⟨⟨bs, h, n, al⟩, e, mm⟩ := s
  cases h with
  | cons h r => cases h; exact ⟨_, rfl⟩
end
def addB (Hf : Hp) : Bs → Hp
  | [] => Hf
  | (a, u) :: bs => upd (addB Hf bs) a u
section
variable {K : PySem.W.Frag} {Hf Hf' : Hg} {H H' : Hp} {h0 : Hp} {its A B : Its} {F : Fr} {bs : Bs} {v w : V} {o : OV} {d : PyData} {p : Addr}
theorem addB_mem : ∀ {bs : Bs} {q : Addr × HO}, (bs.map (·.1)).Nodup → q ∈ bs → addB h0 bs q.1 = some q.2
  | (a, u) :: bs, q, n, h => by
    have n' := List.nodup_cons.mp (show (a :: bs.map (·.1)).Nodup from n)
    rcases List.mem_cons.mp h with rfl | h
    · exact upd_same
    · have ne : q.1 ≠ a := fun e => n'.1 (List.mem_map.mpr ⟨q, h, e⟩)
      show upd (addB h0 bs) a u q.1 = _
      rw [upd_ne ne]
      exact addB_mem n'.2 h
theorem addB_not : ∀ {bs : Bs} {a : Addr}, a ∉ bs.map (·.1) → addB h0 bs a = h0 a
  | [], _, _ => rfl
  | (b, u) :: bs, a, h => by
    have h1 : a ≠ b := fun e => h (by simp [e])
    have h2 : a ∉ bs.map (·.1) := fun e => h (List.mem_cons_of_mem _ e)
    show upd (addB h0 bs) b u a = _
    rw [upd_ne h1]
    exact addB_not h2
theorem addB_cases {bs : Bs} {a : Addr} {u : HO} (h : addB h0 bs a = some u) : (a, u) ∈ bs ∨ h0 a = some u := by
  induction bs with
  | nil => exact .inr h
  | cons q bs ih =>
    obtain ⟨b, x⟩ := q
    have h : upd (addB h0 bs) b x a = some u := h
    by_cases e : a = b
    · subst e; rw [upd_same] at h; cases h; exact .inl List.mem_cons_self
    · rw [upd_ne e] at h
      rcases ih h with z | z
      · exact .inl (List.mem_cons_of_mem _ z)
      · exact .inr z
theorem zip_fst_map {α β γ : Type} (f : α → γ) : ∀ (ks : List α) (vs : List β), ks.length = vs.length → (ks.zip vs).map (fun p => f p.1) = ks.map f
  | [], [], _ => rfl
  | k :: ks, v :: vs, h => by
    simp only [List.zip_cons_cons, List.map_cons]
    rw [zip_fst_map f ks vs (by simpa using h)]
theorem zip_snd {α β : Type} : ∀ (ks : List α) (vs : List β), ks.length = vs.length → (ks.zip vs).map (·.2) = vs
  | [], [], _ => rfl
  | k :: ks, v :: vs, h => by
    simp only [List.zip_cons_cons, List.map_cons]
    rw [zip_snd ks vs (by simpa using h)]
theorem zip_maps {α β γ δ : Type} (f : α → γ) (g : β → δ) : ∀ (ks : List α) (os : List β), (ks.zip os).map (fun p => (f p.1, g p.2)) = (ks.map f).zip (os.map g)
  | [], _ => by simp
  | _ :: _, [] => by simp
  | k :: ks, o :: os => by simp [zip_maps f g ks os]
mutual
theorem Own.rp {G : Hg} (e : Ext Hf G) : ∀ {v : V} {o : OV} {bs : Bs}, Own K Hf v o bs → (∀ q ∈ bs, G.h q.1 = some q.2) → Rp K G v (fz o)
  | _, _, _, .sh h, _ => by rw [fz]; exact h.mono e
  | _, _, _, .lst h, a => by
    rw [fz, fzs_eq]
    exact .lst (SqL.of (a _ List.mem_cons_self)) (OwnL.rp e h fun q hq => a q (List.mem_cons_of_mem _ hq))
  | _, _, _, .dk (ks := ks) (vs := vs) (os := os) l _ h, a => by
    have r := OwnL.rp e h fun q hq => a q (List.mem_cons_of_mem _ hq)
    rw [fz, fzk_eq, zip_maps, ← zip_fst_map kD ks vs l]
    exact .dk (.inl (a _ List.mem_cons_self)) (by rw [zip_snd _ _ l]; exact r)
  | _, _, _, .dt (ks := ks) (vs := vs) (os := os) l _ h, a => by
    have r := OwnL.rp e h fun q hq => a q (List.mem_cons_of_mem _ hq)
    rw [fz, fzt_eq, zip_maps, ← zip_fst_map ktD ks vs l]
    exact .dt (.inl (a _ List.mem_cons_self)) (by rw [zip_snd _ _ l]; exact r)
  | _, _, _, .tup n h, a => by
    rw [fz, fzs_eq]
    exact .tup (a _ List.mem_cons_self) (OwnL.rp e h fun q hq => a q (List.mem_cons_of_mem _ hq))
  | _, _, _, .tup3 t n h, a => by
    rw [fz, fzs_eq]
    exact .tup3 t (a _ List.mem_cons_self) (by rw [List.length_map]; exact n) (OwnL.rp e h fun q hq => a q (List.mem_cons_of_mem _ hq))
theorem OwnL.rp {G : Hg} (e : Ext Hf G) : ∀ {vs : List V} {os : List OV} {bs : Bs}, OwnL K Hf vs os bs → (∀ q ∈ bs, G.h q.1 = some q.2) → RpAll K G vs (os.map fz)
  | _, _, _, .nil, _ => .nil
  | _, _, _, .cons h r, a => .cons (Own.rp e h fun q hq => a q (List.mem_append_left _ hq)) (OwnL.rp e r fun q hq => a q (List.mem_append_right _ hq))
end
theorem SX.freezeM (s : SX K Hf ((v, o) :: its) F H) : ∃ Hf', Same Hf Hf' ∧ Hf'.m = Hf.m ∧ SX K Hf' ((v, .sh (fz o)) :: its) F H := by
  obtain ⟨⟨bs, h, n, al⟩, e, mm⟩ := s
  cases h with
  | @cons _ _ _ b1 b2 h r =>
    have nd1 : (b1.map (·.1)).Nodup := by
      rw [List.append_assoc, List.map_append] at n
      exact (List.nodup_append.mp n).1
    have key : ∀ q ∈ b1, Fre Hf q := fun q hq => (al q (by simp [hq])).2
    have mem : ∀ q ∈ b1, addB Hf.h b1 q.1 = some q.2 := fun q hq => addB_mem nd1 hq
    have sm : Same Hf (Hf.on (addB Hf.h b1)) := same_l2 fun a u hu => by
      by_cases hm : a ∈ b1.map (·.1)
      · obtain ⟨q, hq, rfl⟩ := List.mem_map.mp hm
        rw [mem q hq]
        rcases key q hq with z | ⟨xs, z1, z2⟩
        · rw [z] at hu; cases hu
        · rw [z2] at hu; rw [z1]; exact hu
      · rw [addB_not hm]; exact hu
    refine ⟨Hf.on (addB Hf.h b1), sm, rfl, ⟨[] ++ b2, .cons (.sh (h.rp (.of sm) mem)) (r.mono (.of sm)), ?_, fun q hq => ?_⟩, Ext.mkOn fun a u hu => ?_, mm⟩
    · rw [List.append_assoc, List.map_append] at n
      exact (List.nodup_append.mp n).2.1
    · have hq' : q ∈ b1 ++ b2 ++ F.b := by rw [List.append_assoc]; exact List.mem_append_right _ hq
      refine ⟨(al q hq').1, (al q hq').2.to ?_⟩
      show addB Hf.h b1 q.1 = _
      rw [addB_not]
      · intro hm
        obtain ⟨z, hz, ez⟩ := List.mem_map.mp hm
        rw [List.append_assoc, List.map_append] at n
        have hq2 : q.1 ∈ (b2 ++ F.b).map (·.1) := List.mem_map.mpr ⟨q, by simpa using hq, rfl⟩
        exact (List.nodup_append.mp n).2.2 q.1 (List.mem_map.mpr ⟨z, hz, ez⟩) q.1 hq2 rfl
    · rcases addB_cases hu with m | m
      · exact .inl (al (a, u) (by simp [m])).1
      · exact e.1 a u m
theorem SX.freeze (s : SX K Hf ((v, o) :: its) F H) : ∃ Hf', Same Hf Hf' ∧ SX K Hf' ((v, .sh (fz o)) :: its) F H := by
  obtain ⟨Hf', a, _, b⟩ := s.freezeM
  exact ⟨Hf', a, b⟩
theorem SX.rdH (s : SX K Hf ((v, o) :: its) F H) : Rp K (Hf.on H) v (fz o) := by
  obtain ⟨⟨bs, h, n, al⟩, e, mm⟩ := s
  cases h with
  | @cons _ _ _ b1 b2 h r => exact h.rp e fun q hq => (al q (by simp [hq])).1
end
mutual
def nkT : NestedKey → Bool
  | .none => false
  | .num _ => true
  | .text _ => false
  | .tup ks => nkTs ks
def nkTs : List NestedKey → Bool
  | [] => true
  | k :: ks => nkT k && nkTs ks
end
mutual
def nh : NestedKey → Int
  | .none => 0
  | .num i => hashInt i
  | .text _ => 0
  | .tup ks => reduceHash (Builtin.Tuple.tupleHashOf (nhs ks))
def nhs : List NestedKey → List Int
  | [] => []
  | k :: ks => nh k :: nhs ks
end
def nkOk : NestedKey → Bool
  | .tup ks => nkTs ks && decide ((NestedKey.tup ks).depth ≤ 8)
  | _ => false
def dnR (p : NestedKey × Addr × V) (q : NestedKey × Addr × Value) : Prop := p.1 = q.1 ∧ p.2.1 = q.2.1 ∧ RelV p.2.2 q.2.2
def dnE (x : NestedKey × Addr × Value) : DictEntry := ⟨nh x.1, .ref x.2.1, x.2.2⟩
def dnP (pin : Option Obj) (a : Addr) (xs : List (NestedKey × Addr × V)) (h : Heap) : Prop := xs.length ≤ sizeLine ∧ (a == sysModules) = false ∧ ∃ ys : List (NestedKey × Addr × Value), Paired dnR xs ys ∧
  ∃ o es ep, h.get? a = some o ∧ (∀ q, pin = some q → o = q) ∧ o.ExactDict ∧ o.data = .dict es ep ∧ es.toList = ys.map dnE
def dlP (a : Addr) (n : Nat) (h : Heap) : Prop := n ≤ sizeLine ∧ (a == sysModules) = false ∧ ∃ o es ep, h.get? a = some o ∧ o.ExactDict ∧ o.data = .dict es ep ∧ es.size = n
def dlO (a : Addr) (n : Nat) : HO := .ext (dlP a n)
def dnO (pin : Option Obj) (a : Addr) (xs : List (NestedKey × Addr × V)) : HO := .ext (dnP pin a xs)
inductive SO where
  | dn (kvs : List (NestedKey × PyData))
  | dl (n : Nat)
  | lst (ds : List PyData)
  | dk (kvs : List (Key × PyData))
  | dt (kvs : List (List Key × PyData))
  | ins (c : Str) (fs : List (Str × PyData))
inductive SOwn (K : PySem.W.Frag) (Hf : Hg) : Addr → SO → Bs → Prop
  | dn {a : Addr} {pin : Option Obj} {ks : List NestedKey} {bs : List Addr} {vs : List V} {ds : List PyData} : bs.length = ks.length → vs.length = ks.length → ks.Nodup → (∀ k ∈ ks, nkOk k = true) → RpAll K Hf (bs.map V.ref) (ks.map NestedKey.data) → RpAll K Hf vs ds → SOwn K Hf a (.dn (ks.zip ds)) [(a, dnO pin a (ks.zip (bs.zip vs)))]
  | dl {a : Addr} {n : Nat} : SOwn K Hf a (.dl n) [(a, dlO a n)]
  | lst {a : Addr} {vs : List V} {ds : List PyData} : RpAll K Hf vs ds → SOwn K Hf a (.lst ds) [(a, .lst vs)]
  | dk {a : Addr} {ks : List Key} {vs : List V} {ds : List PyData} : ks.length = vs.length → ks.Nodup → RpAll K Hf vs ds → SOwn K Hf a (.dk (ks.zip ds)) [(a, .dK (ks.zip vs))]
  | dt {a : Addr} {ks : List (List Key)} {vs : List V} {ds : List PyData} : ks.length = vs.length → ks.Nodup → RpAll K Hf vs ds → SOwn K Hf a (.dt (ks.zip ds)) [(a, .dT (ks.zip vs))]
  | ins {a dx : Addr} {c : Str} {ns : List Str} {vs : List V} {ds : List PyData} : ns.length = vs.length → RpAll K Hf vs ds → SOwn K Hf a (.ins c (ns.zip ds)) [(a, .ins (He.ga K c) dx (ns.zip vs)), (dx, .own a)]
inductive StoL (K : PySem.W.Frag) (Hf : Hg) : List Addr → List SO → Bs → Prop
  | nil : StoL K Hf [] [] []
  | cons {a : Addr} {as : List Addr} {o : SO} {os : List SO} {b1 b2 : Bs} : SOwn K Hf a o b1 → StoL K Hf as os b2 → StoL K Hf (a :: as) (o :: os) (b1 ++ b2)
section
variable {K : PySem.W.Frag} {G G' : Hg}
theorem SOwn.mono (e : Ext G G') {a : Addr} {o : SO} {bs : Bs} (h : SOwn K G a o bs) : SOwn K G' a o bs := by
  cases h with
  | dn l1 l2 n k rk r => exact .dn l1 l2 n k (rk.mono e) (r.mono e)
  | dl => exact .dl
  | lst r => exact .lst (r.mono e)
  | dk l n r => exact .dk l n (r.mono e)
  | dt l n r => exact .dt l n (r.mono e)
  | ins l r => exact .ins l (r.mono e)
theorem StoL.mono (e : Ext G G') {as : List Addr} {os : List SO} {bs : Bs} (h : StoL K G as os bs) : StoL K G' as os bs := by
  induction h with
  | nil => exact .nil
  | cons h _ ih => exact .cons (h.mono e) ih
theorem StoL.len {as : List Addr} {os : List SO} {bs : Bs} (h : StoL K G as os bs) : as.length = os.length := by
  induction h with
  | nil => rfl
  | cons h _ ih => exact congrArg (· + 1) ih
end
abbrev Sl := List (Option OV)
structure Rho where
  sl : Sl
  st : List SO
def Rho.set (ρ : Rho) (i : Nat) (x : Option OV) : Rho := ⟨ρ.sl.set i x, ρ.st⟩
@[reducible] def Rho.length (ρ : Rho) : Nat := ρ.sl.length
@[simp] theorem Rho.sl_set {ρ : Rho} {i : Nat} {x : Option OV} : (ρ.set i x).sl = ρ.sl.set i x := rfl
@[simp] theorem Rho.st_set {ρ : Rho} {i : Nat} {x : Option OV} : (ρ.set i x).st = ρ.st := rfl
@[simp] theorem Rho.set_set {ρ : Rho} {i : Nat} {x y : Option OV} : (ρ.set i x).set i y = ρ.set i y := by unfold Rho.set; simp
structure Exn where
  cls : Str
  cell : PyData
inductive Re where
  | ok (o : OV) (ρ : Rho) | exc (e : Exn) (ρ : Rho) | stk
inductive ReL where
  | ok (os : List OV) (ρ : Rho) | exc (e : Exn) (ρ : Rho) | stk
inductive ReB where
  | ok (b : Bool) (ρ : Rho) | exc (e : Exn) (ρ : Rho) | stk
inductive Out where
  | next (ρ : Rho) | ret (o : OV) (ρ : Rho) | brk (ρ : Rho) | cnt (ρ : Rho) | exc (e : Exn) (ρ : Rho) | stk
inductive Rv where
  | ok (o : OV) (st : List SO) | exc (e : Exn) (st : List SO) | stk
inductive Slots : St → Sl → Its → Prop
  | nil : Slots [] [] []
  | no {σ : St} {ρ : Sl} {its : Its} {x : Option V} : Slots σ ρ its → Slots (x :: σ) (none :: ρ) its
  | yes {σ : St} {ρ : Sl} {its : Its} {v : V} {o : OV} : Slots σ ρ its → Slots (some v :: σ) (some o :: ρ) ((v, o) :: its)
theorem Slots.len : ∀ {σ : St} {ρ : Sl} {its : Its}, Slots σ ρ its → σ.length = ρ.length
  | _, _, _, .nil => rfl
  | _, _, _, .no r => congrArg (· + 1) r.len
  | _, _, _, .yes r => congrArg (· + 1) r.len
theorem Slots.get : ∀ {σ : St} {ρ : Sl} {its : Its} {i : Nat} {o : OV}, Slots σ ρ its → ρ[i]? = some (some o) →
    ∃ v A B, σ[i]? = some (some v) ∧ its = A ++ (v, o) :: B ∧ (∀ o', Slots σ (ρ.set i (some o')) (A ++ (v, o') :: B)) ∧ Slots σ (ρ.set i none) (A ++ B)
  | _, _, _, _, _, .nil, h => by simp at h
  | _, _, _, 0, _, .no r, h => by simp at h
  | _, _, _, i + 1, _, .no r, h => by
    obtain ⟨v, A, B, h1, h2, h3, h4⟩ := r.get (i := i) (by simpa using h)
    exact ⟨v, A, B, by simpa using h1, h2, fun o' => by simpa using Slots.no (h3 o'), by simpa using Slots.no h4⟩
  | _, _, _, 0, _, .yes (v := v) (its := its) r, h => by
    simp at h; subst h
    exact ⟨v, [], its, rfl, rfl, fun o' => .yes r, .no r⟩
  | _, _, _, i + 1, _, .yes (v := w) (o := p) r, h => by
    obtain ⟨v, A, B, h1, h2, h3, h4⟩ := r.get (i := i) (by simpa using h)
    exact ⟨v, (w, p) :: A, B, by simpa using h1, by rw [h2]; rfl, fun o' => by simpa using Slots.yes (h3 o'), by simpa using Slots.yes h4⟩
theorem Slots.put : ∀ {σ : St} {ρ : Sl} {its : Its} {i : Nat} (v : V) (o : OV), Slots σ ρ its → i < ρ.length →
    ∃ A M B, its = A ++ (M ++ B) ∧ Slots (σ.set i (some v)) (ρ.set i (some o)) (A ++ (v, o) :: B)
  | _, _, _, _, _, _, .nil, h => by simp at h
  | _, _, _, 0, v, o, .no (its := its) r, h => ⟨[], [], its, rfl, .yes r⟩
  | _, _, _, i + 1, v, o, .no r, h => by
    obtain ⟨A, M, B, h1, h2⟩ := r.put (i := i) v o (by simpa using h)
    exact ⟨A, M, B, h1, by simpa using Slots.no h2⟩
  | _, _, _, 0, v, o, .yes (v := w) (o := p) (its := its) r, h => ⟨[], [(w, p)], its, rfl, .yes r⟩
  | _, _, _, i + 1, v, o, .yes (v := w) (o := p) r, h => by
    obtain ⟨A, M, B, h1, h2⟩ := r.put (i := i) v o (by simpa using h)
    exact ⟨(w, p) :: A, M, B, by rw [h1]; rfl, by simpa using Slots.yes h2⟩
theorem Slots.forget : ∀ {σ : St} {ρ : Sl} {its : Its} (i : Nat) (x : Option V), Slots σ ρ its → ∃ A M B, its = A ++ (M ++ B) ∧ Slots (σ.set i x) (ρ.set i none) (A ++ B)
  | _, _, _, _, _, .nil => ⟨[], [], [], rfl, .nil⟩
  | _, _, _, 0, _, .no (its := its) r => ⟨[], [], its, rfl, .no r⟩
  | _, _, _, i + 1, x, .no r => by
    obtain ⟨A, M, B, h1, h2⟩ := r.forget i x
    exact ⟨A, M, B, h1, by simpa using Slots.no h2⟩
  | _, _, _, 0, _, .yes (v := w) (o := p) (its := its) r => ⟨[], [(w, p)], its, rfl, .no r⟩
  | _, _, _, i + 1, x, .yes (v := w) (o := p) r => by
    obtain ⟨A, M, B, h1, h2⟩ := r.forget i x
    exact ⟨(w, p) :: A, M, B, by rw [h1]; rfl, by simpa using Slots.yes h2⟩
theorem Slots.forget' {σ : St} {ρ : Sl} {its : Its} (i : Nat) (h : Slots σ ρ its) : ∃ A M B, its = A ++ (M ++ B) ∧ Slots σ (ρ.set i none) (A ++ B) := by
  by_cases hi : i < σ.length
  · obtain ⟨A, M, B, h1, h2⟩ := h.forget i (σ[i])
    exact ⟨A, M, B, h1, by simpa using h2⟩
  · have hρ : ρ.set i none = ρ := List.set_eq_of_length_le (by rw [← h.len]; omega)
    exact ⟨its, [], [], by simp, by rw [hρ]; simpa using h⟩
theorem permA {α : Type} (T A M B : List α) : (T ++ (A ++ (M ++ B))).Perm (M ++ (T ++ (A ++ B))) := by
  rw [← List.append_assoc T A (M ++ B), ← List.append_assoc T A B]
  exact List.perm_append_comm_assoc _ _ _
theorem permB {α : Type} (x : α) (T A M B : List α) : (x :: (T ++ (A ++ (M ++ B)))).Perm (M ++ (T ++ (A ++ x :: B))) := by
  refine ((permA T A M B).cons x).trans ?_
  rw [← List.append_assoc T A B, ← List.append_assoc M (T ++ A) B, ← List.append_assoc T A (x :: B), ← List.append_assoc M (T ++ A) (x :: B)]
  exact List.perm_middle.symm
structure SI (K : PySem.W.Frag) (Hf : Hg) (T : Its) (ρ : Rho) (F : Bs) (σ : St) (H : Hp) : Prop where
  ex : ∃ its sb, Slots σ ρ.sl its ∧ StoL K Hf Hf.m ρ.st sb ∧ SX K Hf (T ++ its) (fr (sb ++ F) Hf.m) H
theorem StoL.to {K : PySem.W.Frag} {G G' : Hg} {os : List SO} {bs : Bs} (h : StoL K G G.m os bs) (e : Ext G G') (hm : G'.m = G.m) : StoL K G' G'.m os bs := by
  rw [hm]; exact h.mono e
section
variable {K : PySem.W.Frag} {Hf Hf' : Hg} {H H' : Hp} {T T' A B : Its} {F bs : Bs} {v w : V} {o o' : OV} {d : PyData} {p : Addr} {ρ ρ' : Rho} {σ : St} {i : Nat}
theorem SI.perm (s : SI K Hf T ρ F σ H) (q : T.Perm T') : SI K Hf T' ρ F σ H := by
  obtain ⟨its, sb, h, hs, s⟩ := s.ex
  exact ⟨its, sb, h, hs, s.perm (q.append_right _)⟩
theorem SI.drop (s : SI K Hf ((v, o) :: T) ρ F σ H) : SI K Hf T ρ F σ H := by
  obtain ⟨its, sb, h, hs, s⟩ := s.ex
  exact ⟨its, sb, h, hs, s.drop⟩
theorem SI.dropT (s : SI K Hf T ρ F σ H) : SI K Hf [] ρ F σ H := by
  obtain ⟨its, sb, h, hs, s⟩ := s.ex
  exact ⟨its, sb, h, hs, s.tail⟩
theorem SI.sub (s : SI K Hf T ρ F σ H) : Ext Hf (Hf.on H) := by
  obtain ⟨its, sb, h, hs, s⟩ := s.ex
  exact s.sub
theorem SI.len (s : SI K Hf T ρ F σ H) : σ.length = ρ.length := by
  obtain ⟨its, sb, h, hs, s⟩ := s.ex
  exact h.len
theorem SI.freeze (s : SI K Hf ((v, o) :: T) ρ F σ H) : ∃ Hf', Same Hf Hf' ∧ SI K Hf' ((v, .sh (fz o)) :: T) ρ F σ H := by
  obtain ⟨its, sb, h, hs, s⟩ := s.ex
  obtain ⟨Hf', sm, hm, s'⟩ := SX.freezeM (its := T ++ its) s
  exact ⟨Hf', sm, its, sb, h, hs.to sm hm, by rw [hm]; exact s'⟩
theorem SI.rp (s : SI K Hf ((v, .sh d) :: T) ρ F σ H) : Rp K Hf v d := by
  obtain ⟨its, sb, h, hs, s⟩ := s.ex
  exact SX.rp (its := T ++ its) s
theorem SI.rdH (s : SI K Hf ((v, o) :: T) ρ F σ H) : Rp K (Hf.on H) v (fz o) := by
  obtain ⟨its, sb, h, hs, s⟩ := s.ex
  exact SX.rdH (its := T ++ its) s
theorem SI.add (s : SI K Hf T ρ F σ H) (r : Rp K Hf v d) : SI K Hf ((v, .sh d) :: T) ρ F σ H := by
  obtain ⟨its, sb, h, hs, s⟩ := s.ex
  exact ⟨its, sb, h, hs, SX.add (its := T ++ its) s r⟩
theorem Slots.uniq : ∀ {σ : St} {ρ : Sl} {a b : Its}, Slots σ ρ a → Slots σ ρ b → a = b := by
  intro σ ρ a b ha
  induction ha generalizing b with
  | nil => intro hb; cases hb; rfl
  | no r ih => intro hb; cases hb with | no q => exact ih q
  | yes r ih => intro hb; cases hb with | yes q => rw [ih q]
theorem SI.take (s : SI K Hf T ρ F σ H) (h : ρ.sl[i]? = some (some o)) : ∃ v, σ[i]? = some (some v) ∧ SI K Hf ((v, o) :: T) (ρ.set i none) F σ H ∧ (∀ o' Hf' H', SI K Hf' ((v, o') :: T) (ρ.set i none) F σ H' → SI K Hf' T (ρ.set i (some o')) F σ H') := by
  obtain ⟨its, sb, hs, ht, s⟩ := s.ex
  obtain ⟨v, A, B, h1, rfl, h3, h4⟩ := hs.get h
  refine ⟨v, h1, ⟨A ++ B, sb, h4, ht, s.perm ?_⟩, fun o' Hf' H' s' => ?_⟩
  · have : (T ++ (A ++ (v, o) :: B)).Perm ((v, o) :: (T ++ (A ++ B))) := by
      rw [← List.append_assoc, ← List.append_assoc]
      exact List.perm_middle
    exact this
  · obtain ⟨its', sb', hs', ht', s''⟩ := s'.ex
    have : its' = A ++ B := hs'.uniq h4
    subst this
    refine ⟨A ++ (v, o') :: B, sb', h3 o', ht', s''.perm ?_⟩
    have : ((v, o') :: (T ++ (A ++ B))).Perm (T ++ (A ++ (v, o') :: B)) := by
      rw [← List.append_assoc, ← List.append_assoc]
      exact List.perm_middle.symm
    exact this
theorem SI.put (s : SI K Hf ((v, o) :: T) ρ F σ H) (hi : i < ρ.length) : SI K Hf T (ρ.set i (some o)) F (σ.set i (some v)) H := by
  obtain ⟨its, sb, h, hs, s⟩ := s.ex
  obtain ⟨A, M, B, rfl, h2⟩ := h.put v o hi
  exact ⟨_, sb, h2, hs, SX.tail (A := M) (s.perm (permB (v, o) T A M B))⟩
theorem SI.forget (s : SI K Hf T ρ F σ H) (i : Nat) : SI K Hf T (ρ.set i none) F σ H := by
  obtain ⟨its, sb, h, hs, s⟩ := s.ex
  obtain ⟨A, M, B, rfl, h2⟩ := h.forget' i
  exact ⟨_, sb, h2, hs, SX.tail (A := M) (s.perm (permA T A M B))⟩
theorem SI.ex2 (s : SI K Hf T ρ F σ H) : ∃ its F2, SX K Hf (T ++ its) F2 H ∧ ∀ T' Hf' H', Same Hf Hf' → SX K Hf' (T' ++ its) F2 H' → SI K Hf' T' ρ F σ H' := by
  obtain ⟨its, sb, h, hs, s⟩ := s.ex
  exact ⟨its, fr (sb ++ F) Hf.m, s, fun T' Hf' H' sm q => ⟨its, sb, h, hs.to sm q.mm, by rw [show Hf'.m = Hf.m from q.mm]; exact q⟩⟩
theorem SI.new {u : HO} (s : SI K Hf T ρ F σ H) (hp : H p = Option.none) : SI K (Hf.up p u) T ρ F σ (upd H p u) ∧ Same Hf (Hf.up p u) := by
  obtain ⟨its, sb, h, hs, s⟩ := s.ex
  obtain ⟨s', sm⟩ := s.new (u := u) hp
  exact ⟨⟨its, sb, h, hs.to sm rfl, s'⟩, sm⟩
end
def ExnIs (mg : Str → Option Value) (K : PySem.W.Frag) (Hf : Hg) (H : Hp) (e : Exn) (cls : Value) (d : Option Addr) : Prop :=
  ∃ (C dx : Addr) (fs : List (Str × V)) (v : V), mg e.cls = some (.ref C) ∧ cls = .ref C ∧ d = some dx ∧ H dx = some (.xd fs) ∧ fs.lookup ("cell" : Str) = some v ∧ Rp K Hf v e.cell
section
variable (X : Cx) (W : WX) (Hf : Hg) (T : Its) (F : Bs) (σ : St)
def PostE (r : Re) (Q : VK) : Prop :=
  match r with
  | .ok o ρ' => ∀ v H' Hf', Same Hf Hf' → SI X.K Hf' ((v, o) :: T) ρ' F σ H' → Q v H'
  | .exc e ρ' => ∀ H' Hf' cls d, Same Hf Hf' → SI X.K Hf' [] ρ' F σ H' → ExnIs X.mg X.K Hf' H' e cls d → W cls d σ H'
  | .stk => False
def PostL (r : ReL) (Q : List V → Hp → Prop) : Prop :=
  match r with
  | .ok os ρ' => ∀ vs H' Hf', vs.length = os.length → Same Hf Hf' → SI X.K Hf' (vs.zip os ++ T) ρ' F σ H' → Q vs H'
  | .exc e ρ' => ∀ H' Hf' cls d, Same Hf Hf' → SI X.K Hf' [] ρ' F σ H' → ExnIs X.mg X.K Hf' H' e cls d → W cls d σ H'
  | .stk => False
def PostB (r : ReB) (Q : Bool → Hp → Prop) : Prop :=
  match r with
  | .ok b ρ' => ∀ H' Hf', Same Hf Hf' → SI X.K Hf' T ρ' F σ H' → Q b H'
  | .exc e ρ' => ∀ H' Hf' cls d, Same Hf Hf' → SI X.K Hf' [] ρ' F σ H' → ExnIs X.mg X.K Hf' H' e cls d → W cls d σ H'
  | .stk => False
def PostS (r : Out) (D : Ends) : Prop :=
  match r with
  | .next ρ' => ∀ σ' H' Hf', Same Hf Hf' → SI X.K Hf' [] ρ' F σ' H' → D.nx σ' H'
  | .ret o ρ' => ∀ v σ' H' Hf', Same Hf Hf' → SI X.K Hf' [(v, o)] ρ' F σ' H' → D.rt v H'
  | .brk ρ' => ∀ σ' H' Hf', Same Hf Hf' → SI X.K Hf' [] ρ' F σ' H' → D.bk σ' H'
  | .cnt ρ' => ∀ σ' H' Hf', Same Hf Hf' → SI X.K Hf' [] ρ' F σ' H' → D.ct σ' H'
  | .exc e ρ' => ∀ σ' H' Hf' cls d, Same Hf Hf' → SI X.K Hf' [] ρ' F σ' H' → ExnIs X.mg X.K Hf' H' e cls d → W cls d σ' H'
  | .stk => False
end
def tE (X : Cx) (W : WX) (f : Rho → Re) : TE := fun σ H Q => ∃ Hf T ρ F, SI X.K Hf T ρ F σ H ∧ PostE X W Hf T F σ (f ρ) Q
def tL (X : Cx) (W : WX) (f : Rho → ReL) : TA := fun σ H Q => ∃ Hf T ρ F, SI X.K Hf T ρ F σ H ∧ PostL X W Hf T F σ (f ρ) Q
def tT (X : Cx) (W : WX) (f : Rho → ReB) : TT := fun σ H Q => ∃ Hf T ρ F, SI X.K Hf T ρ F σ H ∧ PostB X W Hf T F σ (f ρ) Q
def tSt (X : Cx) (W : WX) (g : Rho → Out) : TS := fun D σ H => ∃ Hf ρ F, SI X.K Hf [] ρ F σ H ∧ PostS X W Hf F (g ρ) D
def EvE (X : Cx) (W : WX) (e : Expr) (f : Rho → Re) : Prop := PE X e (tE X W f)
def EvL (X : Cx) (W : WX) (es : List Expr) (f : Rho → ReL) : Prop := PA X es (tL X W f)
def EvT (X : Cx) (W : WX) (e : Expr) (f : Rho → ReB) : Prop := PT X e (tT X W f)
def EvC (X : Cx) (W : WX) (op : CmpOp) (a b : Expr) (f : Rho → Re) : Prop := PC X op a b (tE X W f)
def EvS (X : Cx) (W : WX) (st : Stmt) (g : Rho → Out) : Prop := PS X st (tSt X W g)
def EvB (X : Cx) (W : WX) (sts : List Stmt) (g : Rho → Out) : Prop := PSs X sts (tSt X W g)
theorem pe_w {X : Cx} {e : Expr} {t t' : TE} (h : PE X e t) (hw : ∀ σ H Q, t' σ H Q → t σ H Q) : PE X e t' := ⟨fun pins s σ H Q I h' => h.run pins s σ H Q I (hw σ H Q h')⟩
theorem pa_w {X : Cx} {es : List Expr} {t t' : TA} (h : PA X es t) (hw : ∀ σ H Q, t' σ H Q → t σ H Q) : PA X es t' := ⟨fun pos pins s σ H Q I h' => h.run pos pins s σ H Q I (hw σ H Q h')⟩
theorem pt_w {X : Cx} {e : Expr} {t t' : TT} (h : PT X e t) (hw : ∀ σ H Q, t' σ H Q → t σ H Q) : PT X e t' := ⟨fun pins s σ H Q I h' => h.run pins s σ H Q I (hw σ H Q h')⟩
theorem pc_w {X : Cx} {op : CmpOp} {a b : Expr} {t t' : TE} (h : PC X op a b t) (hw : ∀ σ H Q, t' σ H Q → t σ H Q) : PC X op a b t' := ⟨fun pins s σ H Q I h' => h.run pins s σ H Q I (hw σ H Q h')⟩
theorem ps_w {X : Cx} {st : Stmt} {t t' : TS} (h : PS X st t) (hw : ∀ D σ H, t' D σ H → t D σ H) : PS X st t' := ⟨fun pins s σ H D I h' => h.run pins s σ H D I (hw D σ H h')⟩
theorem pss_w {X : Cx} {st : List Stmt} {t t' : TS} (h : PSs X st t) (hw : ∀ D σ H, t' D σ H → t D σ H) : PSs X st t' := ⟨fun pins s σ H D I h' => h.run pins s σ H D I (hw D σ H h')⟩
def bindE (r : Re) (k : OV → Rho → Re) : Re := match r with
  | .ok o ρ => k o ρ
  | .exc e ρ => .exc e ρ
  | .stk => .stk
def bindEL (r : Re) (k : OV → Rho → ReL) : ReL := match r with
  | .ok o ρ => k o ρ
  | .exc e ρ => .exc e ρ
  | .stk => .stk
def bindL (r : ReL) (k : List OV → Rho → Re) : Re := match r with
  | .ok o ρ => k o ρ
  | .exc e ρ => .exc e ρ
  | .stk => .stk
def bindLL (r : ReL) (k : List OV → Rho → ReL) : ReL := match r with
  | .ok o ρ => k o ρ
  | .exc e ρ => .exc e ρ
  | .stk => .stk
def bindB (r : ReB) (k : Bool → Rho → Re) : Re := match r with
  | .ok o ρ => k o ρ
  | .exc e ρ => .exc e ρ
  | .stk => .stk
def bindBB (r : ReB) (k : Bool → Rho → ReB) : ReB := match r with
  | .ok o ρ => k o ρ
  | .exc e ρ => .exc e ρ
  | .stk => .stk
def bindEB (r : Re) (k : OV → Rho → ReB) : ReB := match r with
  | .ok o ρ => k o ρ
  | .exc e ρ => .exc e ρ
  | .stk => .stk
def bindS (r : Re) (k : OV → Rho → Out) : Out := match r with
  | .ok o ρ => k o ρ
  | .exc e ρ => .exc e ρ
  | .stk => .stk
def bindBS (r : ReB) (k : Bool → Rho → Out) : Out := match r with
  | .ok o ρ => k o ρ
  | .exc e ρ => .exc e ρ
  | .stk => .stk
section
variable {X : Cx} {W : WX} {Hf : Hg} {T T' : Its} {F : Bs} {σ : St} {Q : VK}
theorem PostE.mono {Hf' : Hg} (sm : Same Hf Hf') : ∀ {r : Re}, PostE X W Hf T F σ r Q → PostE X W Hf' T F σ r Q
  | .ok _ _, h => fun v H' Hf2 s => h v H' Hf2 (sm.trans s)
  | .exc _ _, h => fun H' Hf2 cls d s => h H' Hf2 cls d (sm.trans s)
  | .stk, h => h
theorem PostL.mono {Hf' : Hg} (sm : Same Hf Hf') {Q : List V → Hp → Prop} : ∀ {r : ReL}, PostL X W Hf T F σ r Q → PostL X W Hf' T F σ r Q
  | .ok _ _, h => fun v H' Hf2 l s => h v H' Hf2 l (sm.trans s)
  | .exc _ _, h => fun H' Hf2 cls d s => h H' Hf2 cls d (sm.trans s)
  | .stk, h => h
theorem PostB.mono {Hf' : Hg} (sm : Same Hf Hf') {Q : Bool → Hp → Prop} : ∀ {r : ReB}, PostB X W Hf T F σ r Q → PostB X W Hf' T F σ r Q
  | .ok _ _, h => fun H' Hf2 s => h H' Hf2 (sm.trans s)
  | .exc _ _, h => fun H' Hf2 cls d s => h H' Hf2 cls d (sm.trans s)
  | .stk, h => h
theorem PostS.mono {Hf' : Hg} (sm : Same Hf Hf') {D : Ends} : ∀ {r : Out}, PostS X W Hf F r D → PostS X W Hf' F r D
  | .next _, h => fun σ' H' Hf2 s => h σ' H' Hf2 (sm.trans s)
  | .ret _ _, h => fun v σ' H' Hf2 s => h v σ' H' Hf2 (sm.trans s)
  | .brk _, h => fun σ' H' Hf2 s => h σ' H' Hf2 (sm.trans s)
  | .cnt _, h => fun σ' H' Hf2 s => h σ' H' Hf2 (sm.trans s)
  | .exc _ _, h => fun σ' H' Hf2 cls d s => h σ' H' Hf2 cls d (sm.trans s)
  | .stk, h => h
theorem PostE.bind {r : Re} {k : OV → Rho → Re} {Q1 : VK} (h : PostE X W Hf T F σ (bindE r k) Q)
    (hk : ∀ a ρ1 v H1 Hf1, Same Hf Hf1 → SI X.K Hf1 ((v, a) :: T') ρ1 F σ H1 → PostE X W Hf1 T F σ (k a ρ1) Q → Q1 v H1) : PostE X W Hf T' F σ r Q1 := by
  cases r with
  | ok o ρ => exact fun v H1 Hf1 sm s => hk o ρ v H1 Hf1 sm s (PostE.mono sm h)
  | exc e ρ => exact h
  | stk => exact h
theorem PostE.bindEL {r : Re} {k : OV → Rho → ReL} {Q : List V → Hp → Prop} {Q1 : VK} (h : PostL X W Hf T F σ (bindEL r k) Q)
    (hk : ∀ a ρ1 v H1 Hf1, Same Hf Hf1 → SI X.K Hf1 ((v, a) :: T') ρ1 F σ H1 → PostL X W Hf1 T F σ (k a ρ1) Q → Q1 v H1) : PostE X W Hf T' F σ r Q1 := by
  cases r with
  | ok o ρ => exact fun v H1 Hf1 sm s => hk o ρ v H1 Hf1 sm s (PostL.mono sm h)
  | exc e ρ => exact h
  | stk => exact h
theorem PostL.bind {r : ReL} {k : List OV → Rho → Re} {Q1 : List V → Hp → Prop} (h : PostE X W Hf T F σ (bindL r k) Q)
    (hk : ∀ as ρ1 vs H1 Hf1, vs.length = as.length → Same Hf Hf1 → SI X.K Hf1 (vs.zip as ++ T') ρ1 F σ H1 → PostE X W Hf1 T F σ (k as ρ1) Q → Q1 vs H1) : PostL X W Hf T' F σ r Q1 := by
  cases r with
  | ok o ρ => exact fun v H1 Hf1 l sm s => hk o ρ v H1 Hf1 l sm s (PostE.mono sm h)
  | exc e ρ => exact h
  | stk => exact h
theorem PostL.bindLL {r : ReL} {k : List OV → Rho → ReL} {Q : List V → Hp → Prop} {Q1 : List V → Hp → Prop} (h : PostL X W Hf T F σ (bindLL r k) Q)
    (hk : ∀ as ρ1 vs H1 Hf1, vs.length = as.length → Same Hf Hf1 → SI X.K Hf1 (vs.zip as ++ T') ρ1 F σ H1 → PostL X W Hf1 T F σ (k as ρ1) Q → Q1 vs H1) : PostL X W Hf T' F σ r Q1 := by
  cases r with
  | ok o ρ => exact fun v H1 Hf1 l sm s => hk o ρ v H1 Hf1 l sm s (PostL.mono sm h)
  | exc e ρ => exact h
  | stk => exact h
theorem PostB.bind {r : ReB} {k : Bool → Rho → Re} {Q1 : Bool → Hp → Prop} (h : PostE X W Hf T F σ (bindB r k) Q)
    (hk : ∀ b ρ1 H1 Hf1, Same Hf Hf1 → SI X.K Hf1 T' ρ1 F σ H1 → PostE X W Hf1 T F σ (k b ρ1) Q → Q1 b H1) : PostB X W Hf T' F σ r Q1 := by
  cases r with
  | ok o ρ => exact fun H1 Hf1 sm s => hk o ρ H1 Hf1 sm s (PostE.mono sm h)
  | exc e ρ => exact h
  | stk => exact h
theorem PostB.bindBB {r : ReB} {k : Bool → Rho → ReB} {Q Q1 : Bool → Hp → Prop} (h : PostB X W Hf T F σ (bindBB r k) Q)
    (hk : ∀ b ρ1 H1 Hf1, Same Hf Hf1 → SI X.K Hf1 T' ρ1 F σ H1 → PostB X W Hf1 T F σ (k b ρ1) Q → Q1 b H1) : PostB X W Hf T' F σ r Q1 := by
  cases r with
  | ok o ρ => exact fun H1 Hf1 sm s => hk o ρ H1 Hf1 sm s (PostB.mono sm h)
  | exc e ρ => exact h
  | stk => exact h
theorem PostE.bindEB {r : Re} {k : OV → Rho → ReB} {Q : Bool → Hp → Prop} {Q1 : VK} (h : PostB X W Hf T F σ (bindEB r k) Q)
    (hk : ∀ a ρ1 v H1 Hf1, Same Hf Hf1 → SI X.K Hf1 ((v, a) :: T') ρ1 F σ H1 → PostB X W Hf1 T F σ (k a ρ1) Q → Q1 v H1) : PostE X W Hf T' F σ r Q1 := by
  cases r with
  | ok o ρ => exact fun v H1 Hf1 sm s => hk o ρ v H1 Hf1 sm s (PostB.mono sm h)
  | exc e ρ => exact h
  | stk => exact h
theorem PostE.bindS {r : Re} {k : OV → Rho → Out} {D : Ends} {Q1 : VK} (h : PostS X W Hf F (bindS r k) D)
    (hk : ∀ a ρ1 v H1 Hf1, Same Hf Hf1 → SI X.K Hf1 ((v, a) :: T') ρ1 F σ H1 → PostS X W Hf1 F (k a ρ1) D → Q1 v H1) : PostE X W Hf T' F σ r Q1 := by
  cases r with
  | ok o ρ => exact fun v H1 Hf1 sm s => hk o ρ v H1 Hf1 sm s (PostS.mono sm h)
  | exc e ρ => exact fun H' Hf' cls d sm s x => h σ H' Hf' cls d sm s x
  | stk => exact h
theorem PostB.bindBS {r : ReB} {k : Bool → Rho → Out} {D : Ends} {Q1 : Bool → Hp → Prop} (h : PostS X W Hf F (bindBS r k) D)
    (hk : ∀ a ρ1 H1 Hf1, Same Hf Hf1 → SI X.K Hf1 T' ρ1 F σ H1 → PostS X W Hf1 F (k a ρ1) D → Q1 a H1) : PostB X W Hf T' F σ r Q1 := by
  cases r with
  | ok o ρ => exact fun H1 Hf1 sm s => hk o ρ H1 Hf1 sm s (PostS.mono sm h)
  | exc e ρ => exact fun H' Hf' cls d sm s x => h σ H' Hf' cls d sm s x
  | stk => exact h
end
structure Good (X : Cx) (W : WX) (n : Nat) : Prop where
  nd : X.N.Nodup
  calm : X.calm = true
  tk : Takes X W
  po : PassesOwn (model X.prog X.w) X.A X.env X.xe
  hr : Room n X.A
abbrev W0 : WX := fun _ _ _ _ => False
theorem Good.blk {X : Cx} {W : WX} {n : Nat} (g : Good X W n) (s : Shared) (H : Hp) (scope : Scope) (cenv : Env) (fp : List Addr) : Good (X.blk s H scope cenv fp) W0 n :=
  ⟨g.nd, g.calm, takes0, .never, g.hr⟩
theorem Good.hu {X : Cx} {W : WX} {n : Nat} (g : Good X W n) : X.A.units + 65 < cLine := by have := g.hr.un; omega
section
variable {X : Cx} {W : WX} {e a b c : Expr} {f fa fb fc : Rho → Re} {pos : Pos} {n : Nat}
def cC (d : PyData) (ρ : Rho) : Re := .ok (.sh d) ρ
theorem ev_c {v : V} {d : PyData} (h : PE X e (tC v)) (r : ∀ H, Rp X.K H v d) : EvE X W e (cC d) :=
  pe_w h fun σ H Q ⟨Hf, T, ρ, F, s, h⟩ => h v H Hf (Same.refl _) (s.add (r _))
theorem ev_int {i : Int} {j} : EvE X W (.Constant (.int i) j pos) (cC (.int i)) := ev_c pe_int fun _ => .int i
theorem ev_bl {i : Bool} {j} : EvE X W (.Constant (.bool i) j pos) (cC (.bool i)) := ev_c pe_bl fun _ => .bl i
theorem ev_non {j} : EvE X W (.Constant .none j pos) (cC .none) := ev_c pe_non fun _ => .non
theorem ev_str {x : Str} {j} : EvE X W (.Constant (.str x) j pos) (cC (.str x)) := ev_c pe_str fun _ => .str x
theorem ev_gint {x : Str} {i : Int} {t : Tok} (hg : Gl X x) (hm : X.mg x = some (.int i t)) (hd : (x == ("__debug__" : Str)) = false := by decide) : EvE X W (.Name x pos) (cC (.int i)) := ev_c (pe_glob (v := .int i) hg hm ⟨t, rfl⟩ hd) fun _ => .int i
theorem ev_gtup {x : Str} {a : Addr} {xs : List Str} (hg : Gl X x) (hm : X.mg x = some (.ref a)) (hs : ∀ H, SqT X.K H a (xs.map V.str)) (hn : xs ≠ []) (hd : (x == ("__debug__" : Str)) = false := by decide) : EvE X W (.Name x pos) (cC (.tuple (xs.map .str))) :=
  ev_c (pe_glob (v := .ref a) hg hm rfl hd) fun H => .tupK (hs H.h) hn
def eV (i : Nat) (ρ : Rho) : Re := match ρ.sl[i]? with
  | some (some o) => .ok (.sh (fz o)) (ρ.set i (some (.sh (fz o))))
  | _ => .stk
def eM (i : Nat) (ρ : Rho) : Re := match ρ.sl[i]? with
  | some (some o) => .ok o (ρ.set i none)
  | _ => .stk
theorem ev_var {i : Nat} (h : PE X e (tVar i)) : EvE X W e (eV i) := pe_w h fun σ H Q ⟨Hf, T, ρ, F, s, h⟩ => by
  unfold eV at h
  cases q : ρ.sl[i]? with
  | none => rw [q] at h; exact h.elim
  | some x =>
    cases x with
    | none => rw [q] at h; exact h.elim
    | some o =>
      rw [q] at h
      obtain ⟨v, h1, s1, back⟩ := s.take q
      obtain ⟨Hf', sm, s2⟩ := s1.freeze
      refine ⟨v, h1, h v H Hf' sm ?_⟩
      have s3 := s2.add s2.rp
      obtain ⟨v', h1', _⟩ := id s3
      exact (SI.perm (T := (v, .sh (fz o)) :: (v, .sh (fz o)) :: T) (T' := (v, .sh (fz o)) :: (v, .sh (fz o)) :: T) s3 (.refl _)) |> fun z => by
        have := back (.sh (fz o)) Hf' H s2
        exact this.add s2.rp
theorem ev_mv {i : Nat} (h : PE X e (tVar i)) : EvE X W e (eM i) := pe_w h fun σ H Q ⟨Hf, T, ρ, F, s, h⟩ => by
  unfold eM at h
  cases q : ρ.sl[i]? with
  | none => rw [q] at h; exact h.elim
  | some x =>
    cases x with
    | none => rw [q] at h; exact h.elim
    | some o =>
      rw [q] at h
      obtain ⟨v, h1, s1, back⟩ := s.take q
      exact ⟨v, h1, h v H Hf (Same.refl _) s1⟩
def Op2 (K : PySem.W.Frag) (r : R2) (g : OV → OV → Option OV) : Prop :=
  ∀ (Hf : Hg) (its : Its) (F : Fr) (H : Hp) (x y : V) (a b c : OV) (Q : VK), SX K Hf ((y, b) :: (x, a) :: its) F H → g a b = some c →
    (∀ v H' Hf', Same Hf Hf' → SX K Hf' ((v, c) :: its) F H' → Q v H') → r x y H Q
def ofO (o : Option OV) (ρ : Rho) : Re := match o with
  | some c => .ok c ρ
  | none => .stk
def eBin (g : OV → OV → Option OV) (fa fb : Rho → Re) (ρ : Rho) : Re := bindE (fa ρ) fun a ρ1 => bindE (fb ρ1) fun b ρ2 => ofO (g a b) ρ2
theorem op_post {r : R2} {g : OV → OV → Option OV} (ho : Op2 X.K r g) {Hf : Hg} {T : Its} {ρ : Rho} {F : Bs} {σ : St} {H : Hp} {x y : V} {a b : OV} {Q : VK}
    (s : SI X.K Hf ((y, b) :: (x, a) :: T) ρ F σ H) (h : PostE X W Hf T F σ (ofO (g a b) ρ) Q) : r x y H Q := by
  cases q : g a b with
  | none => rw [q] at h; exact h.elim
  | some c =>
    rw [q] at h
    obtain ⟨its, F2, s, bk⟩ := s.ex2
    exact ho Hf (T ++ its) F2 H x y a b c Q s q fun v H' Hf' sm s' => h v H' Hf' sm (bk _ _ _ sm s')
theorem ev_top {r : R2} {g : OV → OV → Option OV} (ho : Op2 X.K r g) (h : PE X e (tOp r (tE X W fa) (tE X W fb))) : EvE X W e (eBin g fa fb) := pe_w h fun σ H Q ⟨Hf, T, ρ, F, s, h⟩ => by
  refine ⟨Hf, T, ρ, F, s, PostE.bind h fun a ρ1 x H1 Hf1 sm s1 h1 => ⟨Hf1, (x, a) :: T, ρ1, F, s1, PostE.bind h1 fun b ρ2 y H2 Hf2 sm2 s2 h2 => ?_⟩⟩
  exact op_post ho s2 h2
theorem ev_op {op : Operator} {r : R2} {g : OV → OV → Option OV} (hr : OpR X (binaryOp op) r) (ho : Op2 X.K r g) (ha : EvE X W a fa) (hb : EvE X W b fb) : EvE X W (.BinOp a op b pos) (eBin g fa fb) := ev_top ho (pe_op hr ha hb)
theorem ec_op {op : CmpOp} {r : R2} {g : OV → OV → Option OV} (hr : OpR X (compareOp op) r) (ho : Op2 X.K r g) (ha : EvE X W a fa) (hb : EvE X W b fb) : EvC X W op a b (eBin g fa fb) := by
  have h : PC X op a b (tOp r (tE X W fa) (tE X W fb)) := ⟨fun pins s σ H Q I h => binT ha hb I h fun v u s2 x y H2 I2 rx ry q => hr pins s2 σ H2 x y v u Q I2 rx ry q⟩
  refine pc_w h fun σ H Q ⟨Hf, T, ρ, F, s, h⟩ => ?_
  refine ⟨Hf, T, ρ, F, s, PostE.bind h fun a ρ1 x H1 Hf1 sm s1 h1 => ⟨Hf1, (x, a) :: T, ρ1, F, s1, PostE.bind h1 fun b ρ2 y H2 Hf2 sm2 s2 h2 => ?_⟩⟩
  exact op_post ho s2 h2
def Op1 (K : PySem.W.Frag) (r : V → Hp → VK → Prop) (g : OV → Option OV) : Prop :=
  ∀ (Hf : Hg) (its : Its) (F : Fr) (H : Hp) (x : V) (a c : OV) (Q : VK), SX K Hf ((x, a) :: its) F H → g a = some c →
    (∀ v H' Hf', Same Hf Hf' → SX K Hf' ((v, c) :: its) F H' → Q v H') → r x H Q
def eUn (g : OV → Option OV) (fa : Rho → Re) (ρ : Rho) : Re := bindE (fa ρ) fun a ρ1 => ofO (g a) ρ1
theorem op_post1 {r : V → Hp → VK → Prop} {g : OV → Option OV} (ho : Op1 X.K r g) {Hf : Hg} {T : Its} {ρ : Rho} {F : Bs} {σ : St} {H : Hp} {x : V} {a : OV} {Q : VK}
    (s : SI X.K Hf ((x, a) :: T) ρ F σ H) (h : PostE X W Hf T F σ (ofO (g a) ρ) Q) : r x H Q := by
  cases q : g a with
  | none => rw [q] at h; exact h.elim
  | some c =>
    rw [q] at h
    obtain ⟨its, F2, s, bk⟩ := s.ex2
    exact ho Hf (T ++ its) F2 H x a c Q s q fun v H' Hf' sm s' => h v H' Hf' sm (bk _ _ _ sm s')
theorem ev_tun {r : V → Hp → VK → Prop} {g : OV → Option OV} (ho : Op1 X.K r g) (h : PE X e (tUn r (tE X W fa))) : EvE X W e (eUn g fa) := pe_w h fun σ H Q ⟨Hf, T, ρ, F, s, h⟩ =>
  ⟨Hf, T, ρ, F, s, PostE.bind h fun a ρ1 x H1 Hf1 sm s1 h1 => op_post1 ho s1 h1⟩
theorem ev_un {op : UnaryOp} {r : V → Hp → VK → Prop} {g : OV → Option OV} (hr : UnR X (unaryOp op) r) (ho : Op1 X.K r g) (ha : EvE X W a fa) : EvE X W (.UnaryOp op a pos) (eUn g fa) := ev_tun ho (pe_un hr ha)
end
def oI : OV → Option Int
  | .sh (.int i) => some i
  | _ => none
theorem oI_eq {a : OV} {i : Int} (h : oI a = some i) : a = .sh (.int i) := by
  unfold oI at h
  split at h
  · cases h; rfl
  · cases h
def gII (C : Int → Int → Bool) (f : Int → Int → PyData) (a b : OV) : Option OV := match oI a, oI b with
  | some i, some j => if C i j = true then some (.sh (f i j)) else none
  | _, _ => none
theorem rp_int {K : PySem.W.Frag} {H : Hg} {x : V} {i : Int} (h : Rp K H x (.int i)) : x = .int i := by cases h; rfl
theorem rp_bl {K : PySem.W.Frag} {H : Hg} {x : V} {i : Bool} (h : Rp K H x (.bool i)) : x = .bl i := by cases h; rfl
theorem rp_str {K : PySem.W.Frag} {H : Hg} {x : V} {i : Str} (h : Rp K H x (.str i)) : x = .str i := by cases h; rfl
theorem op2_int {K : PySem.W.Frag} {r : R2} {C : Int → Int → Bool} {f : Int → Int → PyData} {fv : Int → Int → V} (hf : ∀ i j (H : Hg), Rp K H (fv i j) (f i j))
    (hr : ∀ i j H Q, C i j = true → Q (fv i j) H → r (.int i) (.int j) H Q) : Op2 K r (gII C f) := by
  intro Hf its F H x y a b c Q s h q
  unfold gII at h
  split at h
  · rename_i i j h1 h2
    obtain rfl := oI_eq h1
    obtain rfl := oI_eq h2
    by_cases hC : C i j = true
    · rw [if_pos hC] at h; cases h
      have ey := rp_int s.rp
      have ex := rp_int s.drop.rp
      subst ex ey
      exact hr i j H Q hC (q _ _ Hf (Same.refl _) (s.drop.drop.add (hf i j _)))
    · rw [if_neg hC] at h; cases h
  · cases h
theorem op2_I0 {K : PySem.W.Frag} (g : Int → Int → Int) : Op2 K (rI0 fun i j => .int (g i j)) (gII (fun _ _ => true) fun i j => .int (g i j)) := op2_int (fun _ _ _ => .int _) fun i j H Q _ q => ⟨i, j, rfl, rfl, q⟩
theorem op2_I {K : PySem.W.Frag} {C : Int → Int → Prop} {D : Int → Int → Bool} (g : Int → Int → Int) (hD : ∀ i j, D i j = true → C i j) : Op2 K (rI C fun i j => .int (g i j)) (gII D fun i j => .int (g i j)) := op2_int (fun _ _ _ => .int _) fun i j H Q d q => ⟨i, j, rfl, rfl, hD i j d, q⟩
section
variable {K : PySem.W.Frag} {Hf Hf' : Hg} {H H' : Hp} {its A B : Its} {F : Fr} {bs : Bs} {v w x y : V} {a b o : OV} {d : PyData} {p : Addr}
theorem SX.freeze2 (s : SX K Hf ((y, b) :: (x, a) :: its) F H) : ∃ Hf', Same Hf Hf' ∧ SX K Hf' ((y, .sh (fz b)) :: (x, .sh (fz a)) :: its) F H := by
  obtain ⟨H1, s1, h1⟩ := s.freeze
  obtain ⟨H2, s2, h2⟩ := (h1.perm (List.Perm.swap _ _ _)).freeze
  exact ⟨H2, s1.trans s2, h2.perm (List.Perm.swap _ _ _)⟩
theorem SX.mkTup {xs : List V} {ds : List PyData} (s : SX K Hf its F H) (r : RpAll K Hf xs ds) (hp : H p = none) : SX K (Hf.up p (.tup xs)) ((.ref p, .sh (.tuple ds)) :: its) F (upd H p (.tup xs)) ∧ Same Hf (Hf.up p (.tup xs)) := by
  obtain ⟨s', sm⟩ := s.new (u := .tup xs) hp
  exact ⟨s'.add (.tup upd_same (r.mono (.of sm))), sm⟩
theorem SX.learn {xs : List V} {ds : List PyData} (s : SX K Hf its F H) (hq : H p = some (.tup xs)) (r : RpAll K Hf xs ds) : ∃ Hf', Same Hf Hf' ∧ SX K Hf' ((.ref p, .sh (.tuple ds)) :: its) F H := by
  cases q : Hf.h p with
  | some o =>
    have e : o = .tup xs := by
      rcases s.sub.1 p o q with z | ⟨(⟨kvs, rfl⟩ | ⟨kvs, rfl⟩), ob, z⟩
      · exact (Option.some.inj (hq.symm.trans z)).symm
      · have := hq.symm.trans z; cases this
      · have := hq.symm.trans z; cases this
    subst e
    exact ⟨Hf, Same.refl _, s.add (.tup q r)⟩
  | none =>
    have sm : Same Hf (Hf.up p (.tup xs)) := same_l2 fun b x z => by
      have : b ≠ p := fun e => by rw [e, q] at z; cases z
      show upd _ _ _ _ = _
      rw [upd_ne this]; exact z
    obtain ⟨⟨bs, h, n, a⟩, e, mm⟩ := s
    refine ⟨Hf.up p (.tup xs), sm, SX.add ⟨⟨bs, h.mono (.of sm), n, fun z hz => ⟨(a z hz).1, ?_⟩⟩, Ext.mkOn fun b x z => ?_, mm⟩ (.tup upd_same (r.mono (.of sm)))⟩
    · by_cases ez : z.1 = p
      · have h1 := (a z hz).1
        rw [ez] at h1
        have h1 : H p = some z.2 := h1
        rw [hq] at h1
        refine .inr ⟨xs, (Option.some.inj h1).symm, ?_⟩
        rw [ez]; exact upd_same
      · exact (a z hz).2.to (upd_ne ez)
    · have z : upd Hf.h p (.tup xs) b = some x := z
      by_cases eb : b = p
      · subst eb
        rw [upd_same] at z
        cases z
        exact .inl hq
      · rw [upd_ne eb] at z
        exact e.1 b x z
theorem SX.mkLst {xs : List V} {ds : List PyData} (s : SX K Hf its F H) (r : RpAll K Hf xs ds) (hp : H p = none) : SX K Hf ((.ref p, .lst (ds.map .sh)) :: its) F (upd H p (.lst xs)) :=
  SX.newOwn (C := []) s hp fun bs h => by
    cases h
    exact .lst (OwnL.of_rp r)
end
section
variable {X : Cx} {W : WX} {e a b c : Expr} {f fa fb fc : Rho → Re} {pos : Pos} {n : Nat}
theorem OpR.or {f : Value → Value → Sem Value} {r r' : R2} (h : OpR X f r) (h' : OpR X f r') : OpR X f (fun x y H Q => r x y H Q ∨ r' x y H Q) :=
  fun pins s σ H x y v u Q I rx ry q => q.elim (h pins s σ H x y v u Q I rx ry) (h' pins s σ H x y v u Q I rx ry)
def rCatR (K : PySem.W.Frag) : R2 := fun x y H Q => ∃ l b xs zs, x = .ref l ∧ y = .ref b ∧ SqL K H l xs ∧ SqL K H b zs ∧ xs.length + zs.length ≤ sizeLine ∧ ∀ p, H p = none → Q (.ref p) (upd H p (.lst (xs ++ zs)))
theorem op_catR : OpR X (binaryOp .Add) (rCatR X.K) := by
  intro pins s σ H x y v u Q I rx ry ⟨l, b, xs, zs, e1, e2, hH, hB, hz, q⟩
  subst e1 e2
  cases rx
  cases ry
  obtain ⟨its1, v1, ⟨⟨k1, d1, dat1, sl1⟩, n1, g1, c1, _, h1⟩, _⟩ := I.list hH
  obtain ⟨its2, v2, ⟨⟨k2, d2, dat2, sl2⟩, n2, g2, c2, _, h2⟩, _⟩ := I.list hB
  simp only at c1 h1 c2 h2
  subst c1 h1 c2 h2
  have l1 := v1.length
  have l2 := v2.length
  refine concat_meets ⟨_, g1, rfl⟩ ⟨_, g2, rfl⟩ noFill_list_add seq_list_add PySem.F.slot_list_add PySem.F.entry_list_add (PySem.F.args_list_add_2 _ _) (list_addW l b its1.toArray its2.toArray n1 n2 d1 d2 sl1 sl2 (by simp only [List.size_toArray]; omega)) ⟨g1, g2, ?_⟩
  rw [show its1.toArray ++ its2.toArray = (its1 ++ its2).toArray from by simp]
  exact ⟨.ref _, _, I.lnew (t' := s.toks) (v1.append v2) (by rw [List.length_append]; omega), rfl, q _ I.fresh⟩
def gAdd (a b : OV) : Option OV := match fz a, fz b with
  | .int i, .int j => some (.sh (.int (i + j)))
  | .str x, .str y => if x.length + y.length ≤ sizeLine then some (.sh (.str (x ++ y))) else none
  | .tuple xs, .tuple ys => if xs.length + ys.length ≤ sizeLine then some (.sh (.tuple (xs ++ ys))) else none
  | .list xs, .list ys => if xs.length + ys.length ≤ sizeLine then some (.lst ((xs ++ ys).map .sh)) else none
  | _, _ => none
abbrev rAddS : R2 := fun x y H Q => ∃ i j, x = .str i ∧ y = .str j ∧ i.length + j.length ≤ sizeLine ∧ Q (.str (i ++ j)) H
def rAdd (K : PySem.W.Frag) : R2 := fun x y H Q => rI0 (fun i j => .int (i + j)) x y H Q ∨ (rAddS x y H Q ∨ (rCatA K x y H Q ∨ rCatR K x y H Q))
theorem op_addAll : OpR X (binaryOp .Add) (rAdd X.K) := OpR.or op_add (OpR.or op_add_str (OpR.or op_catA op_catR))
theorem op2_add {K : PySem.W.Frag} : Op2 K (rAdd K) gAdd := by
  intro Hf its F H x y a b c Q s h q
  obtain ⟨Hf', sm, s'⟩ := s.freeze2
  have q' : ∀ v H' Hf2, Same Hf' Hf2 → SX K Hf2 ((v, c) :: its) F H' → Q v H' := fun v H' Hf2 z => q v H' Hf2 (sm.trans z)
  unfold gAdd at h
  generalize fz a = da at *
  generalize fz b = db at *
  have ry := s'.rp
  have rx := s'.drop.rp
  have s2 := s'.drop.drop
  split at h
  · cases h
    have e1 := rp_int rx
    have e2 := rp_int ry
    subst e1 e2
    exact .inl ⟨_, _, rfl, rfl, q' _ _ _ (Same.refl _) (s2.add (.int _))⟩
  · split at h
    · rename_i hz
      cases h
      have e1 := rp_str rx
      have e2 := rp_str ry
      subst e1 e2
      exact .inr (.inl ⟨_, _, rfl, rfl, hz, q' _ _ _ (Same.refl _) (s2.add (.str _))⟩)
    · cases h
  · split at h
    · rename_i hz
      cases h
      obtain ⟨p1, xs, rfl, t1, r1⟩ := rx.sqT
      obtain ⟨p2, ys, rfl, t2, r2⟩ := ry.sqT
      refine .inr (.inr (.inl ⟨p1, p2, xs, ys, rfl, rfl, s'.sub.sqT t1, s'.sub.sqT t2, by rw [r1.len, r2.len]; exact hz, fun e => ?_, fun _ e => ?_, fun e1 e2 p hp => ?_⟩))
      · subst e
        cases r1
        exact q' _ _ _ (Same.refl _) (s2.add ry)
      · subst e
        cases r2
        rw [List.append_nil] at q'
        exact q' _ _ _ (Same.refl _) (s2.add rx)
      · obtain ⟨s3, sm3⟩ := s2.mkTup (r1.append r2) hp
        exact q' _ _ _ sm3 s3
    · cases h
  · split at h
    · rename_i hz
      cases h
      obtain ⟨p1, xs, rfl, t1, r1⟩ := rx.sqL
      obtain ⟨p2, ys, rfl, t2, r2⟩ := ry.sqL
      exact .inr (.inr (.inr ⟨p1, p2, xs, ys, rfl, rfl, s'.sub.sqL t1, s'.sub.sqL t2, by rw [r1.len, r2.len]; exact hz, fun p hp => q' _ _ _ (Same.refl _) (s2.mkLst (r1.append r2) hp)⟩))
    · cases h
  · cases h
theorem ev_add (ha : EvE X W a fa) (hb : EvE X W b fb) : EvE X W (.BinOp a .Add b pos) (eBin gAdd fa fb) := ev_op op_addAll op2_add ha hb
theorem ev_sub (ha : EvE X W a fa) (hb : EvE X W b fb) : EvE X W (.BinOp a .Sub b pos) (eBin (gII (fun _ _ => true) fun i j => .int (i - j)) fa fb) := ev_op op_sub (op2_I0 fun i j => i - j) ha hb
def mulOk (i j : Int) : Bool := decide (-(2 ^ 64) < i ∧ i < 2 ^ 64) || decide (-(2 ^ 64) < j ∧ j < 2 ^ 64) || decide (i.natAbs.log2 + j.natAbs.log2 < 1000000)
theorem op_mulAll : OpR X (binaryOp .Mult) (rI (fun i j => mulOk i j = true) fun i j => .int (i * j)) := by
  intro pins s σ H x y v u Q I rx ry h
  obtain ⟨i, j, rfl, rfl, hc, q⟩ := h
  unfold mulOk at hc
  rw [Bool.or_eq_true, Bool.or_eq_true] at hc
  rcases hc with (hc | hc) | hc
  · exact op_mul pins s σ H _ _ v u Q I rx ry ⟨i, j, rfl, rfl, .inl (of_decide_eq_true hc), q⟩
  · exact op_mul pins s σ H _ _ v u Q I rx ry ⟨i, j, rfl, rfl, .inr (of_decide_eq_true hc), q⟩
  · exact op_mulW pins s σ H _ _ v u Q I rx ry ⟨i, j, rfl, rfl, (show i.natAbs.log2 + j.natAbs.log2 < 1000000 from of_decide_eq_true hc), q⟩
theorem ev_mul (ha : EvE X W a fa) (hb : EvE X W b fb) : EvE X W (.BinOp a .Mult b pos) (eBin (gII mulOk fun i j => .int (i * j)) fa fb) := ev_op op_mulAll (op2_I (fun i j => i * j) fun _ _ h => h) ha hb
theorem ev_mod (ha : EvE X W a fa) (hb : EvE X W b fb) : EvE X W (.BinOp a .Mod b pos) (eBin (gII (fun _ j => decide (0 < j)) fun i j => .int (i % j)) fa fb) := ev_op op_mod (op2_I (fun i j => i % j) fun _ _ h => of_decide_eq_true h) ha hb
def divOk (_ j : Int) : Bool := decide (0 < j) && decide (j.natAbs.log2 < 9000)
theorem ev_fdiv (ha : EvE X W a fa) (hb : EvE X W b fb) : EvE X W (.BinOp a .FloorDiv b pos) (eBin (gII divOk fun i j => .int (i / j)) fa fb) := ev_op op_fdivW (op2_I (fun i j => i / j) fun i j h => by
  unfold divOk at h
  rw [Bool.and_eq_true] at h
  exact ⟨of_decide_eq_true h.1, of_decide_eq_true h.2⟩) ha hb
def powOk (i j : Int) : Bool := decide (0 ≤ j) && decide ((Builtin.Int.intBits i : Int) * j ≤ 2 ^ 27)
theorem op_powW : OpR X (binaryOp .Pow) (rI (fun i j => powOk i j = true) fun i j => .int (i ^ j.toNat)) := opI fun i j _ _ _ _ _ hc q => by
  unfold powOk at hc
  rw [Bool.and_eq_true] at hc
  exact PyProof.Rows.pow_int (of_decide_eq_true hc.1) (of_decide_eq_true hc.2) q
theorem ev_pow (ha : EvE X W a fa) (hb : EvE X W b fb) : EvE X W (.BinOp a .Pow b pos) (eBin (gII powOk fun i j => .int (i ^ j.toNat)) fa fb) := ev_op op_powW (op2_I (fun i j => i ^ j.toNat) fun _ _ h => h) ha hb
def gI (f : Int → PyData) (a : OV) : Option OV := match oI a with
  | some i => some (.sh (f i))
  | none => none
theorem op1_I {K : PySem.W.Frag} (g : Int → Int) : Op1 K (rU fun i => .int (g i)) (gI fun i => .int (g i)) := by
  intro Hf its F H x a c Q s h q
  unfold gI at h
  split at h
  · rename_i i hi
    cases h
    obtain rfl := oI_eq hi
    have e := rp_int s.rp
    subst e
    exact ⟨i, rfl, q _ _ _ (Same.refl _) (s.drop.add (.int _))⟩
  · cases h
theorem ev_neg (ha : EvE X W a fa) : EvE X W (.UnaryOp .USub a pos) (eUn (gI fun i => .int (-i)) fa) := ev_un un_neg (op1_I fun i => -i) ha
open PySem.SeqAt in
def gOrd (fi : Int → Int → Bool) (fd : PyData → PyData → Bool) (a b : OV) : Option OV := match fz a, fz b with
  | .int i, .int j => some (.sh (.bool (fi i j)))
  | .tuple xs, .tuple ys => if PySem.W.alike (.tuple xs) (.tuple ys) = true ∧ SeqAt.shaped (.tuple xs) = true ∧ SeqAt.shaped (.tuple ys) = true then some (.sh (.bool (fd (.tuple xs) (.tuple ys)))) else none
  | _, _ => none
abbrev rOrdD (K : PySem.W.Frag) (fd : PyData → PyData → Bool) : R2 := fun x y H Q => ∃ d e, Dp K H x d ∧ Dp K H y e ∧ SeqAt.shaped d = true ∧ SeqAt.shaped e = true ∧ PySem.W.alike d e = true ∧ d ≠ .none ∧ Q (.bl (fd d e)) H
theorem op_ordD {op : CmpOp} {fd : PyData → PyData → Bool} (hu : X.A.units + 65 < cLine)
    (rule : ∀ (s : Shared) (a b : Value) (da db : PyData) (as bs : List Addr) (Q : Value → Shared → Prop) (E : Value → Shared → Prop), Reads s.heap a da as → Reads s.heap b db bs → PySem.W.alike da db = true → da ≠ .none → X.A.units + min da.depth db.depth < cLine → Q (.bool (fd da db)) s → wpAny (model X.prog X.w) X.A (compareOp op a b) Q E s) :
    OpR X (compareOp op) (rOrdD X.K fd) := by
  intro pins s σ H x y v u Q I rx ry h
  obtain ⟨d, e, hd, he, sd, se, al, hn, q⟩ := h
  obtain ⟨as, r1⟩ := Dp.reads I d x v hd rx
  obtain ⟨bs, r2⟩ := Dp.reads I e y u he ry
  exact rule s v u d e as bs _ _ r1 r2 al hn (SeqAt.room_of_shaped sd (by omega)) ⟨.bl _, H, I, rfl, q⟩
abbrev rOrd (K : PySem.W.Frag) (fi : Int → Int → Bool) (fd : PyData → PyData → Bool) : R2 := fun x y H Q => rI0 (fun i j => .bl (fi i j)) x y H Q ∨ rOrdD K fd x y H Q
theorem op2_ord {K : PySem.W.Frag} (fi : Int → Int → Bool) (fd : PyData → PyData → Bool) : Op2 K (rOrd K fi fd) (gOrd fi fd) := by
  intro Hf its F H x y a b c Q s h q
  have ry := s.rdH
  have rx := s.drop.rdH
  have s2 := s.drop.drop
  unfold gOrd at h
  generalize fz a = da at *
  generalize fz b = db at *
  split at h
  · cases h
    have e1 := rp_int rx
    have e2 := rp_int ry
    subst e1 e2
    exact .inl ⟨_, _, rfl, rfl, q _ _ _ (Same.refl _) (s2.add (.bl _))⟩
  · split at h
    · rename_i hc
      cases h
      exact .inr ⟨_, _, rx.dp (SeqAt.canLay_of_shaped hc.2.1), ry.dp (SeqAt.canLay_of_shaped hc.2.2), hc.2.1, hc.2.2, hc.1, (by intro z; cases z), q _ _ _ (Same.refl _) (s2.add (.bl _))⟩
    · cases h
  · cases h
abbrev gLt := gOrd (fun i j => decide (i < j)) PySem.W.dataLt
abbrev gGt := gOrd (fun i j => decide (j < i)) (fun d e => PySem.W.dataLt e d)
abbrev gLe := gOrd (fun i j => decide (i ≤ j)) (fun d e => !PySem.W.dataLt e d)
theorem opr_lt {n : Nat} (G : Good X W n) : OpR X (compareOp .Lt) (rOrd X.K (fun i j => decide (i < j)) PySem.W.dataLt) := OpR.or op_lt (op_ordD G.hu fun s a b da db as bs Q E r1 r2 al hn hu q => PySem.W.lt_data r1 r2 al hn hu q)
theorem opr_gt {n : Nat} (G : Good X W n) : OpR X (compareOp .Gt) (rOrd X.K (fun i j => decide (j < i)) (fun d e => PySem.W.dataLt e d)) := OpR.or op_gt (op_ordD G.hu fun s a b da db as bs Q E r1 r2 al hn hu q => PySem.W.gt_data r1 r2 al hn hu q)
theorem opr_le {n : Nat} (G : Good X W n) : OpR X (compareOp .LtE) (rOrd X.K (fun i j => decide (i ≤ j)) (fun d e => !PySem.W.dataLt e d)) := OpR.or op_le (op_ordD G.hu fun s a b da db as bs Q E r1 r2 al hn hu q => PySem.W.le_data r1 r2 al hn hu q)
theorem ec_lt {n : Nat} (G : Good X W n) (ha : EvE X W a fa) (hb : EvE X W b fb) : EvC X W .Lt a b (eBin gLt fa fb) := ec_op (opr_lt G) (op2_ord _ _) ha hb
theorem ec_gt {n : Nat} (G : Good X W n) (ha : EvE X W a fa) (hb : EvE X W b fb) : EvC X W .Gt a b (eBin gGt fa fb) := ec_op (opr_gt G) (op2_ord _ _) ha hb
theorem ec_le {n : Nat} (G : Good X W n) (ha : EvE X W a fa) (hb : EvE X W b fb) : EvC X W .LtE a b (eBin gLe fa fb) := ec_op (opr_le G) (op2_ord _ _) ha hb
def gEq (neg : Bool) (a b : OV) : Option OV := if SeqAt.shaped (fz a) = true ∧ SeqAt.shaped (fz b) = true then some (.sh (.bool (neg ^^ PyData.eqv (fz a) (fz b)))) else none
theorem op2_eq {K : PySem.W.Frag} : Op2 K (rEqD K) (gEq false) := by
  intro Hf its F H x y a b c Q s h q
  unfold gEq at h
  split at h
  · rename_i hc
    cases h
    exact ⟨_, _, s.drop.rdH.dp (SeqAt.canLay_of_shaped hc.1), s.rdH.dp (SeqAt.canLay_of_shaped hc.2), hc.1, hc.2, q _ _ _ (Same.refl _) (s.drop.drop.add (by rw [Bool.false_xor]; exact .bl _))⟩
  · cases h
theorem op2_ne {K : PySem.W.Frag} : Op2 K (rNeD K) (gEq true) := by
  intro Hf its F H x y a b c Q s h q
  unfold gEq at h
  split at h
  · rename_i hc
    cases h
    exact ⟨_, _, s.drop.rdH.dp (SeqAt.canLay_of_shaped hc.1), s.rdH.dp (SeqAt.canLay_of_shaped hc.2), hc.1, hc.2, q _ _ _ (Same.refl _) (s.drop.drop.add (by rw [Bool.true_xor]; exact .bl _))⟩
  · cases h
theorem opr_eq {n : Nat} (G : Good X W n) : OpR X (compareOp .Eq) (rEqD X.K) := op_eqD (by have := G.hu; omega)
theorem opr_ne {n : Nat} (G : Good X W n) : OpR X (compareOp .NotEq) (rNeD X.K) := op_neD (by have := G.hu; omega)
theorem ec_eq {n : Nat} (G : Good X W n) (ha : EvE X W a fa) (hb : EvE X W b fb) : EvC X W .Eq a b (eBin (gEq false) fa fb) := ec_op (opr_eq G) op2_eq ha hb
theorem ec_ne {n : Nat} (G : Good X W n) (ha : EvE X W a fa) (hb : EvE X W b fb) : EvC X W .NotEq a b (eBin (gEq true) fa fb) := ec_op (opr_ne G) op2_ne ha hb
theorem SX.own {K : PySem.W.Frag} {Hf : Hg} {H : Hp} {its : Its} {F : Fr} {x : V} {a : OV} (s : SX K Hf ((x, a) :: its) F H) : ∃ bs, Own K Hf x a bs := by
  obtain ⟨⟨bs, h, _⟩, _⟩ := s
  cases h with
  | cons h _ => exact ⟨_, h⟩
end
section
variable {X : Cx} {W : WX} {e a b c : Expr} {es rest : List Expr} {f fa fb fc : Rho → Re} {ta tb : Rho → ReB} {fl : Rho → ReL} {pos : Pos} {n : Nat}
def toB (o : OV) (ρ : Rho) : ReB := match o with
  | .sh (.bool b) => .ok b ρ
  | _ => .stk
def eTest (f : Rho → Re) (ρ : Rho) : ReB := bindEB (f ρ) toB
theorem test_post {Hf : Hg} {T : Its} {ρ : Rho} {F : Bs} {σ : St} {H : Hp} {Q : Bool → Hp → Prop} (s : SI X.K Hf T ρ F σ H) (h : PostB X W Hf T F σ (eTest f ρ) Q) : tE X W f σ H fun x H1 => ∃ c, x = .bl c ∧ Q c H1 :=
  ⟨Hf, T, ρ, F, s, PostE.bindEB h fun o ρ1 x H1 Hf1 sm s1 h1 => by
    cases o with
    | sh d =>
      cases d with
      | bool k =>
        have e := rp_bl s1.rp
        subst e
        exact ⟨k, rfl, h1 H1 Hf1 (Same.refl _) s1.drop⟩
      | _ => exact h1.elim
    | _ => exact h1.elim⟩
theorem ee_cmp {op : CmpOp} (h : EvC X W op a b f) (h1 : behindInMarks op b = false := by first | exact nobehind _ (by decide) (by decide) | rfl) : EvE X W (.Compare a [op] [b] pos) f := pe_cmp h h1
theorem et_cmp {op : CmpOp} (h : EvC X W op a b f) (h1 : behindInMarks op b = false := by first | exact nobehind _ (by decide) (by decide) | rfl) : EvT X W (.Compare a [op] [b] pos) (eTest f) :=
  pt_w (pt_cmp h h1) fun σ H Q ⟨Hf, T, ρ, F, s, h⟩ => test_post s h
theorem et_val (h : EvE X W e f) (he : ∀ whole, isTrue e X.env whole = (do let v ← whole; standAt e.pos; holding [v] (truthy v)) := by intro _; rfl) : EvT X W e (eTest f) :=
  pt_w (pt_val h he) fun σ H Q ⟨Hf, T, ρ, F, s, h⟩ => test_post s h
def bNot (ta : Rho → ReB) (ρ : Rho) : ReB := bindBB (ta ρ) fun b ρ1 => .ok (!b) ρ1
theorem et_not (h : EvT X W a ta) : EvT X W (.UnaryOp .Not a pos) (bNot ta) := pt_w (pt_not h) fun σ H Q ⟨Hf, T, ρ, F, s, h⟩ =>
  ⟨Hf, T, ρ, F, s, PostB.bindBB h fun b ρ1 H1 Hf1 sm s1 h1 => h1 H1 Hf1 (Same.refl _) s1⟩
def EvW (X : Cx) (W : WX) (e : Expr) (f : Rho → ReB) : Prop := PW X e (tT X W f)
theorem et_w (h : EvW X W e ta) : EvT X W e ta := PW.pt h
theorem pw_w {X : Cx} {e : Expr} {t t' : TT} (h : PW X e t) (hw : ∀ σ H Q, t' σ H Q → t σ H Q) : PW X e t' := ⟨fun wh pins s σ H Q I h' => h.run wh pins s σ H Q I (hw σ H Q h')⟩
def bAnd (ta tb : Rho → ReB) (ρ : Rho) : ReB := bindBB (ta ρ) fun b ρ1 => if b = true then tb ρ1 else .ok false ρ1
def bOr (ta tb : Rho → ReB) (ρ : Rho) : ReB := bindBB (ta ρ) fun b ρ1 => if b = true then .ok true ρ1 else tb ρ1
theorem ew_and1 (h : EvT X W a ta) : EvW X W (.BoolOp .And [a] pos) ta := pw_and1 h
theorem ew_or1 (h : EvT X W a ta) : EvW X W (.BoolOp .Or [a] pos) ta := pw_or1 h
theorem ew_and (h : EvT X W a ta) (h2 : EvW X W (.BoolOp .And (b :: rest) pos) tb) : EvW X W (.BoolOp .And (a :: b :: rest) pos) (bAnd ta tb) := pw_w (pw_and h h2) fun σ H Q ⟨Hf, T, ρ, F, s, h⟩ =>
  ⟨Hf, T, ρ, F, s, PostB.bindBB h fun b ρ1 H1 Hf1 sm s1 h1 => by
    cases b with
    | true => rw [if_pos rfl]; exact ⟨Hf1, T, ρ1, F, s1, h1⟩
    | false => rw [if_neg Bool.false_ne_true]; exact h1 H1 Hf1 (Same.refl _) s1⟩
theorem ew_or (h : EvT X W a ta) (h2 : EvW X W (.BoolOp .Or (b :: rest) pos) tb) : EvW X W (.BoolOp .Or (a :: b :: rest) pos) (bOr ta tb) := pw_w (pw_or h h2) fun σ H Q ⟨Hf, T, ρ, F, s, h⟩ =>
  ⟨Hf, T, ρ, F, s, PostB.bindBB h fun b ρ1 H1 Hf1 sm s1 h1 => by
    cases b with
    | true => rw [if_pos rfl]; exact h1 H1 Hf1 (Same.refl _) s1
    | false => rw [if_neg Bool.false_ne_true]; exact ⟨Hf1, T, ρ1, F, s1, h1⟩⟩
def gNot (a : OV) : Option OV := match a with
  | .sh (.bool b) => some (.sh (.bool (!b)))
  | _ => none
theorem ev_not (h : EvE X W a fa) : EvE X W (.UnaryOp .Not a pos) (eUn gNot fa) := pe_w (pe_not h) fun σ H Q ⟨Hf, T, ρ, F, s, h⟩ =>
  ⟨Hf, T, ρ, F, s, PostE.bind h fun o ρ1 x H1 Hf1 sm s1 h1 => by
    cases o with
    | sh d =>
      cases d with
      | bool k =>
        have e := rp_bl s1.rp
        subst e
        exact ⟨k, rfl, h1 _ H1 Hf1 (Same.refl _) (s1.drop.add (.bl _))⟩
      | _ => exact h1.elim
    | _ => exact h1.elim⟩
def eAnd (fa fb : Rho → Re) (ρ : Rho) : Re := bindE (fa ρ) fun o ρ1 => match o with
  | .sh (.bool true) => fb ρ1
  | .sh (.bool false) => .ok (.sh (.bool false)) ρ1
  | _ => .stk
def eOr (fa fb : Rho → Re) (ρ : Rho) : Re := bindE (fa ρ) fun o ρ1 => match o with
  | .sh (.bool true) => .ok (.sh (.bool true)) ρ1
  | .sh (.bool false) => fb ρ1
  | _ => .stk
theorem ev_one {op} (h : EvE X W a f) : EvE X W (.BoolOp op [a] pos) f := pe_one h
theorem ev_and (h : EvE X W a fa) (h2 : EvE X W (.BoolOp .And (b :: rest) pos) fb) : EvE X W (.BoolOp .And (a :: b :: rest) pos) (eAnd fa fb) := pe_w (pe_and h h2) fun σ H Q ⟨Hf, T, ρ, F, s, h⟩ =>
  ⟨Hf, T, ρ, F, s, PostE.bind h fun o ρ1 x H1 Hf1 sm s1 h1 => by
    cases o with
    | sh d =>
      cases d with
      | bool k =>
        have e := rp_bl s1.rp
        subst e
        cases k with
        | true => exact ⟨true, rfl, by rw [if_pos rfl]; exact ⟨Hf1, T, ρ1, F, s1.drop, h1⟩⟩
        | false => exact ⟨false, rfl, by rw [if_neg Bool.false_ne_true]; exact h1 _ H1 Hf1 (Same.refl _) s1⟩
      | _ => exact h1.elim
    | _ => exact h1.elim⟩
theorem ev_or (h : EvE X W a fa) (h2 : EvE X W (.BoolOp .Or (b :: rest) pos) fb) : EvE X W (.BoolOp .Or (a :: b :: rest) pos) (eOr fa fb) := pe_w (pe_or h h2) fun σ H Q ⟨Hf, T, ρ, F, s, h⟩ =>
  ⟨Hf, T, ρ, F, s, PostE.bind h fun o ρ1 x H1 Hf1 sm s1 h1 => by
    cases o with
    | sh d =>
      cases d with
      | bool k =>
        have e := rp_bl s1.rp
        subst e
        cases k with
        | true => exact ⟨true, rfl, by rw [if_pos rfl]; exact h1 _ H1 Hf1 (Same.refl _) s1⟩
        | false => exact ⟨false, rfl, by rw [if_neg Bool.false_ne_true]; exact ⟨Hf1, T, ρ1, F, s1.drop, h1⟩⟩
      | _ => exact h1.elim
    | _ => exact h1.elim⟩
def eChain (g g' : OV → OV → Option OV) (fa fb fc : Rho → Re) (ρ : Rho) : Re := bindE (fa ρ) fun x ρ1 => bindE (fb ρ1) fun y ρ2 => match g x y with
  | some (.sh (.bool true)) => bindE (fc ρ2) fun z ρ3 => ofO (g' y z) ρ3
  | some (.sh (.bool false)) => .ok (.sh (.bool false)) ρ2
  | _ => .stk
def LkD (g : OV → OV → Option OV) : Prop := ∀ x y, g x y = g (.sh (fz x)) (.sh (fz y)) ∧ g x y = g (.sh (fz x)) y
theorem chain_post {r r' : R2} {g g' : OV → OV → Option OV} (ho : Op2 X.K r g) (ho' : Op2 X.K r' g') {σ : St} {H : Hp} {Q : VK} {Hf : Hg} {T : Its} {ρ : Rho} {F : Bs} (hg : LkD g) (hg' : LkD g')
    (s : SI X.K Hf T ρ F σ H) (h : PostE X W Hf T F σ (eChain g g' fa fb fc ρ) Q) : tChain r r' (tE X W fa) (tE X W fb) (tE X W fc) σ H Q := by
  refine ⟨Hf, T, ρ, F, s, PostE.bind h fun x ρ1 v H1 Hf1 sm1 s1 h1 => ⟨Hf1, (v, x) :: T, ρ1, F, s1, PostE.bind h1 fun y ρ2 u H2 Hf2 sm2 s2 h2 => ?_⟩⟩
  rw [(hg x y).1] at h2
  simp only [fun z => (hg' y z).2] at h2
  obtain ⟨Hf2', smf, s2⟩ := s2.freeze
  obtain ⟨Hf2', smg, s2⟩ := (s2.perm (List.Perm.swap _ _ _)).freeze
  replace h2 := PostE.mono (smf.trans smg) h2
  have s2 := s2.perm (List.Perm.swap _ _ _)
  generalize fz x = d at *
  generalize fz y = e at *
  clear smf smg hg hg'
  cases q : g (.sh d) (.sh e) with
  | none => simp only [q] at h2; exact h2.elim
  | some o =>
    have ry := s2.rp
    have rx := s2.drop.rp
    obtain ⟨its, F2, s3, bk⟩ := s2.ex2
    refine ho Hf2' (T ++ its) F2 H2 v u _ _ o _ s3 q fun z H3 Hf3 sm3 s4 => ?_
    have s5 : SI X.K Hf3 ((z, o) :: T) ρ2 F σ H3 := bk _ _ _ sm3 s4
    cases o with
    | sh dd =>
      cases dd with
      | bool k =>
        have ez := rp_bl s5.rp
        subst ez
        simp only [q] at h2
        cases k with
        | true =>
          refine ⟨true, rfl, ?_⟩
          rw [if_pos rfl]
          refine ⟨Hf3, (u, .sh e) :: T, ρ2, F, s5.drop.add (ry.mono (.of sm3)), PostE.bind (PostE.mono sm3 h2) fun z ρ3 w H4 Hf4 sm4 s6 h6 => ?_⟩
          exact op_post ho' s6 h6
        | false =>
          refine ⟨false, rfl, ?_⟩
          rw [if_neg Bool.false_ne_true]
          exact h2 _ H3 Hf3 sm3 s5
      | _ => simp only [q] at h2; exact h2.elim
    | _ => simp only [q] at h2; exact h2.elim
theorem gOrd_sh2 {fi : Int → Int → Bool} {fd : PyData → PyData → Bool} : LkD (gOrd fi fd) := fun x y => by
  constructor <;> simp [gOrd, fz]
theorem ev_chain {op op' : CmpOp} {r r' : R2} {g g' : OV → OV → Option OV} (hr : OpR X (compareOp op) r) (hr' : OpR X (compareOp op') r') (ho : Op2 X.K r g) (ho' : Op2 X.K r' g') (hg : LkD g) (hg' : LkD g')
    (ha : EvE X W a fa) (hb : EvE X W b fb) (hc : EvE X W c fc) (hm : lastMarks [op, op'] [b, c] = false := by with_unfolding_all rfl) : EvE X W (.Compare a [op, op'] [b, c] pos) (eChain g g' fa fb fc) :=
  pe_w (pe_chain hr hr' ha hb hc hm) fun σ H Q ⟨Hf, T, ρ, F, s, h⟩ => chain_post ho ho' hg hg' s h
theorem ev_lele (G : Good X W n) (ha : EvE X W a fa) (hb : EvE X W b fb) (hc : EvE X W c fc) (hm : lastMarks [.LtE, .LtE] [b, c] = false := by with_unfolding_all rfl) : EvE X W (.Compare a [.LtE, .LtE] [b, c] pos) (eChain gLe gLe fa fb fc) := ev_chain (opr_le G) (opr_le G) (op2_ord _ _) (op2_ord _ _) gOrd_sh2 gOrd_sh2 ha hb hc hm
theorem ev_lelt (G : Good X W n) (ha : EvE X W a fa) (hb : EvE X W b fb) (hc : EvE X W c fc) (hm : lastMarks [.LtE, .Lt] [b, c] = false := by with_unfolding_all rfl) : EvE X W (.Compare a [.LtE, .Lt] [b, c] pos) (eChain gLe gLt fa fb fc) := ev_chain (opr_le G) (opr_lt G) (op2_ord _ _) (op2_ord _ _) gOrd_sh2 gOrd_sh2 ha hb hc hm
def lNil (ρ : Rho) : ReL := .ok [] ρ
def lCons (f : Rho → Re) (g : Rho → ReL) (ρ : Rho) : ReL := bindEL (f ρ) fun o ρ1 => bindLL (g ρ1) fun os ρ2 => .ok (o :: os) ρ2
theorem el_nil : EvL X W [] lNil := pa_w pa_nil fun σ H Q ⟨Hf, T, ρ, F, s, h⟩ => h [] H Hf rfl (Same.refl _) s
theorem el_cons (he : EvE X W e f) (hr : EvL X W es fl) (hs : starEach (e :: es) X.env = (false, eval e X.env) :: starEach es X.env := by rfl) : EvL X W (e :: es) (lCons f fl) := pa_w (pa_cons he hr hs) fun σ H Q ⟨Hf, T, ρ, F, s, h⟩ =>
  ⟨Hf, T, ρ, F, s, PostE.bindEL h fun o ρ1 v H1 Hf1 sm s1 h1 => ⟨Hf1, (v, o) :: T, ρ1, F, s1, PostL.bindLL h1 fun os ρ2 vs H2 Hf2 l sm2 s2 h2 =>
    h2 (v :: vs) H2 Hf2 (by simp [l]) (Same.refl _) (s2.perm (by simp only [List.zip_cons_cons, List.cons_append]; exact List.perm_middle))⟩⟩
section
variable {K : PySem.W.Frag} {Hf : Hg} {H : Hp} {its : Its} {F : Bs}
theorem SX.freezeAll {F : Fr} : ∀ (vs : List V) (os : List OV) (Hf : Hg), vs.length = os.length → SX K Hf (vs.zip os ++ its) F H → ∃ Hf', Same Hf Hf' ∧ RpAll K Hf' vs (os.map fz) ∧ SX K Hf' its F H
  | [], [], Hf, _, s => ⟨Hf, Same.refl _, .nil, s⟩
  | v :: vs, o :: os, Hf, l, s => by
    obtain ⟨H1, sm1, s1⟩ := SX.freeze (its := vs.zip os ++ its) s
    obtain ⟨H2, sm2, r, s2⟩ := SX.freezeAll vs os H1 (by simpa using l) s1.drop
    exact ⟨H2, sm1.trans sm2, .cons (s1.rp.mono (.of sm2)) r, s2⟩
theorem SI.freezeAll {vs : List V} {os : List OV} {T : Its} {ρ : Rho} {σ : St} (l : vs.length = os.length) (s : SI K Hf (vs.zip os ++ T) ρ F σ H) : ∃ Hf', Same Hf Hf' ∧ RpAll K Hf' vs (os.map fz) ∧ SI K Hf' T ρ F σ H := by
  obtain ⟨its, F2, s, bk⟩ := s.ex2
  rw [List.append_assoc] at s
  obtain ⟨Hf', sm, r, s'⟩ := SX.freezeAll vs os Hf l s
  exact ⟨Hf', sm, r, bk _ _ _ sm s'⟩
end
def eTup (fl : Rho → ReL) (ρ : Rho) : Re := bindL (fl ρ) fun os ρ1 => if os.length ≤ sizeLine then .ok (.sh (.tuple (os.map fz))) ρ1 else .stk
def eLst (fl : Rho → ReL) (ρ : Rho) : Re := bindL (fl ρ) fun os ρ1 => if os.length ≤ sizeLine then .ok (.lst os) ρ1 else .stk
theorem ev_tup {x1} (h : EvL X W es fl) : EvE X W (.Tuple es x1 pos) (eTup fl) := pe_w (pe_tup h) fun σ H Q ⟨Hf, T, ρ, F, s, h⟩ =>
  ⟨Hf, T, ρ, F, s, PostL.bind h fun os ρ1 vs H1 Hf1 l sm s1 h1 => by
    by_cases hz : os.length ≤ sizeLine
    · rw [if_pos hz] at h1
      refine ⟨by rw [l]; exact hz, fun p hp => ?_⟩
      obtain ⟨Hf2, sm2, r, s2⟩ := s1.freezeAll l
      obtain ⟨its, F2, s3, bk⟩ := s2.ex2
      obtain ⟨s4, sm3⟩ := s3.mkTup r hp
      exact h1 _ _ _ (sm2.trans sm3) (bk ((_, _) :: T) _ _ sm3 s4)
    · rw [if_neg hz] at h1; exact h1.elim⟩
theorem ev_lst (h : EvL X W es fl) : EvE X W (.List es pos) (eLst fl) := pe_w (pe_lst h) fun σ H Q ⟨Hf, T, ρ, F, s, h⟩ =>
  ⟨Hf, T, ρ, F, s, PostL.bind h fun os ρ1 vs H1 Hf1 l sm s1 h1 => by
    by_cases hz : os.length ≤ sizeLine
    · rw [if_pos hz] at h1
      refine ⟨by rw [l]; exact hz, fun p hp => ?_⟩
      obtain ⟨its, F2, s3, bk⟩ := s1.ex2
      rw [List.append_assoc] at s3
      have s4 := s3.newOwn (u := .lst vs) (o := .lst os) hp fun bs hb => .lst (OwnI.lst l hb)
      exact h1 _ _ _ (Same.refl _) (bk ((_, _) :: T) _ _ (Same.refl _) s4)
    · rw [if_neg hz] at h1; exact h1.elim⟩
end
def PostP (K : PySem.W.Frag) (mg : Str → Option Value) (Hf : Hg) (F : Bs) (r : Rv) (Q : VK) (E : XK) : Prop :=
  match r with
  | .ok o st => ∀ v H' Hf' sb, Same Hf Hf' → StoL K Hf' Hf'.m st sb → SX K Hf' [(v, o)] (fr (sb ++ F) Hf'.m) H' → Q v H'
  | .exc e st => ∀ H' Hf' cls d sb, Same Hf Hf' → StoL K Hf' Hf'.m st sb → SX K Hf' [] (fr (sb ++ F) Hf'.m) H' → ExnIs mg K Hf' H' e cls d → E cls d H'
  | .stk => False
def spP (K : PySem.W.Frag) (mg : Str → Option Value) (n : Nat) (g : List PyData → List SO → Rv) : Sp := fun vs H Q E =>
  ∃ Hf ds st sb F, vs.length = n ∧ RpAll K Hf vs ds ∧ StoL K Hf Hf.m st sb ∧ SX K Hf [] (fr (sb ++ F) Hf.m) H ∧ PostP K mg Hf F (g ds st) Q E
structure FnT (P : Program) (w : World) (K : PySem.W.Frag) (mg : Str → Option Value) (base : Heap) (x : Str) (k n : Nat) (g : List PyData → List SO → Rv) : Prop where
  ex : ∃ (f : Addr) (fd : FuncData) (ps : List Str), mg x = some (.ref f) ∧ PySem.W.keepIn K (.ref f) = true ∧ Binds K fd ps [] ∧ FnOk P w K mg base (L2.CX P w) k f fd ps (spP K mg n g)
def ofRv (r : Rv) (ρ : Rho) : Re := match r with
  | .ok o st => .ok o ⟨ρ.sl, st⟩
  | .exc e st => .exc e ⟨ρ.sl, st⟩
  | .stk => .stk
def eCall (g : List PyData → List SO → Rv) (fl : Rho → ReL) (ρ : Rho) : Re := bindL (fl ρ) fun os ρ1 => ofRv (g (os.map fz) ρ1.st) ρ1
theorem SI.calls {K : PySem.W.Frag} {Hf : Hg} {A T : Its} {ρ : Rho} {F : Bs} {σ : St} {H : Hp} (s : SI K Hf (A ++ T) ρ F σ H) : ∃ sb bs, StoL K Hf Hf.m ρ.st sb ∧ SX K Hf A (fr (sb ++ (bs ++ F)) Hf.m) H ∧
    ∀ Hf' H' A' st' sb', Same Hf Hf' → StoL K Hf' Hf'.m st' sb' → SX K Hf' A' (fr (sb' ++ (bs ++ F)) Hf'.m) H' → SI K Hf' (A' ++ T) ⟨ρ.sl, st'⟩ F σ H' := by
  obtain ⟨its, sb, h, hs, s⟩ := s.ex
  rw [List.append_assoc] at s
  obtain ⟨bs, hB, s'⟩ := s.frame
  have swap : ∀ {G : Hg} {A : Its} {H : Hp} {sb : Bs} {m : List Addr}, SX K G A (fr (bs ++ (sb ++ F)) m) H → SX K G A (fr (sb ++ (bs ++ F)) m) H := fun q => q.frPerm (List.perm_append_comm_assoc _ _ _)
  have swap' : ∀ {G : Hg} {A : Its} {H : Hp} {sb : Bs} {m : List Addr}, SX K G A (fr (sb ++ (bs ++ F)) m) H → SX K G A (fr (bs ++ (sb ++ F)) m) H := fun q => q.frPerm (List.perm_append_comm_assoc _ _ _)
  refine ⟨sb, bs, hs, swap s', fun Hf' H' A' st' sb' sm t q => ⟨its, sb', h, t, ?_⟩⟩
  rw [List.append_assoc]
  exact SX.unframe (bs := bs) (F := fr (sb' ++ F) Hf'.m) (swap' q) (hB.mono (.of sm))
section
variable {X : Cx} {W : WX} {e a b c : Expr} {es rest : List Expr} {f fa fb fc : Rho → Re} {ta tb : Rho → ReB} {fl : Rho → ReL} {p pos : Pos} {n m k : Nat} {x : Str} {g : List PyData → List SO → Rv}
theorem call_post {Hf : Hg} {T : Its} {ρ : Rho} {F : Bs} {σ : St} {H : Hp} {Q : VK} {vs : List V} {os : List OV} (hn : os.length = n) (l : vs.length = os.length) (s : SI X.K Hf (vs.zip os ++ T) ρ F σ H) (h : PostE X W Hf T F σ (ofRv (g (os.map fz) ρ.st) ρ) Q) :
    spP X.K X.mg n g vs H Q (WE W σ) := by
  obtain ⟨Hf1, sm, r, s1⟩ := s.freezeAll l
  obtain ⟨sb, bs, t, s2, back⟩ := SI.calls (A := []) (T := T) s1
  refine ⟨Hf1, os.map fz, ρ.st, sb, bs ++ F, by rw [l, hn], r, t, s2, ?_⟩
  cases q : g (os.map fz) ρ.st with
  | ok o st =>
    rw [q] at h
    exact fun v H' Hf' sb' sm' t' s' => h v H' Hf' (sm.trans sm') (back Hf' H' [(v, o)] st sb' sm' t' s')
  | exc e st =>
    rw [q] at h
    exact fun H' Hf' cls d sb' sm' t' s' x => h H' Hf' cls d (sm.trans sm') (back Hf' H' [] st sb' sm' t' s').dropT x
  | stk => rw [q] at h; exact h
theorem ev_call (G : Good X W m) (Fn : FnT X.prog X.w X.K X.mg X.base x k n g) (hk : k ≤ m) (hg : Gl X x) (hl : EvL X W (e :: es) fl) (hn : (e :: es).length = n := by rfl) (hdb : (x == ("__debug__" : Str)) = false := by decide)
    (he : starEach (e :: es) X.env = (false, eval e X.env) :: starEach es X.env := by rfl) (hpl : (backTo pos (starEach es X.env)).any (·.1) = false := by rfl)
    (hfl : ∀ ρ os ρ', fl ρ = .ok os ρ' → os.length = (e :: es).length) : EvE X W (.Call (.Name x p) (e :: es) [] pos) (eCall g fl) := by
  obtain ⟨f, fd, ps, hm, kp, hb, F⟩ := Fn.ex
  refine pe_w (pe_callSD F (G.hr.mono hk) hg hm kp hb .nil (fun σ => passAt G.tk σ) hl hdb he hpl) fun σ H Q ⟨Hf, T, ρ, F, s, h⟩ => ?_
  refine ⟨Hf, T, ρ, F, s, ?_⟩
  unfold eCall at h
  cases q : fl ρ with
  | ok os ρ1 =>
    rw [q] at h
    intro vs H1 Hf1 l sm s1
    have := call_post (Q := Q) (by rw [hfl ρ os ρ1 q, hn]) l s1 (PostE.mono sm h)
    simpa using this
  | exc e ρ1 => rw [q] at h; exact h
  | stk => rw [q] at h; exact h
theorem ll_nil : ∀ ρ os ρ', lNil ρ = .ok os ρ' → os.length = 0 := fun ρ os ρ' h => by unfold lNil at h; cases h; rfl
theorem ll_cons {k : Nat} (h : ∀ ρ os ρ', fl ρ = .ok os ρ' → os.length = k) : ∀ ρ os ρ', lCons f fl ρ = .ok os ρ' → os.length = k + 1 := fun ρ os ρ' q => by
  unfold lCons bindEL at q
  cases q1 : f ρ with
  | ok o ρ1 =>
    simp only [q1, bindLL] at q
    cases q2 : fl ρ1 with
    | ok os2 ρ2 =>
      simp only [q2] at q
      cases q
      simp [h _ _ _ q2]
    | exc e ρ2 => simp only [q2] at q; cases q
    | stk => simp only [q2] at q; cases q
  | exc e ρ1 => simp only [q1] at q; cases q
  | stk => simp only [q1] at q; cases q
def outRv (r : Out) : Rv := match r with
  | .next ρ => .ok (.sh .none) ρ.st
  | .ret o ρ => .ok o ρ.st
  | .exc e ρ => .exc e ρ.st
  | _ => .stk
def runP (m : Nat) (body : Rho → Out) (ds : List PyData) (st : List SO) : Rv := outRv (body ⟨ds.map (fun d => some (.sh d)) ++ List.replicate (m - ds.length) none, st⟩)
theorem slots_start : ∀ {vs : List V} {ds : List PyData} (k : Nat), vs.length = ds.length → Slots (vs.map some ++ List.replicate k none) (ds.map (fun d => some (.sh d)) ++ List.replicate k none) (vs.zip (ds.map .sh))
  | [], [], k, _ => by
    induction k with
    | zero => exact .nil
    | succ k ih => exact .no ih
  | v :: vs, d :: ds, k, l => .yes (slots_start k (by simpa using l))
theorem own_args {K : PySem.W.Frag} {Hf : Hg} : ∀ {vs : List V} {ds : List PyData}, RpAll K Hf vs ds → OwnI K Hf (vs.zip (ds.map .sh)) []
  | _, _, .nil => .nil
  | _, _, .cons h r => OwnI.cons (b1 := []) (b2 := []) (.sh h) (own_args r)
theorem SX.addAll {K : PySem.W.Frag} {Hf : Hg} {H : Hp} {F : Fr} {vs : List V} {ds : List PyData} (s : SX K Hf [] F H) (r : RpAll K Hf vs ds) : SX K Hf (vs.zip (ds.map .sh)) F H := by
  obtain ⟨⟨bs, h, n, a⟩, e, mm⟩ := s
  cases h
  exact ⟨⟨[], own_args r, n, a⟩, e, mm⟩
theorem post_out {X : Cx} {Hf : Hg} {F : Bs} {r : Out} {Q : VK} {E : XK} {D : Ends} (h : PostP X.K X.mg Hf F (outRv r) Q E) (hn : ∀ σ H, Q .non H → D.nx σ H := by exact fun _ _ h => h) (hr : ∀ v H, Q v H → D.rt v H := by exact fun _ _ h => h) : PostS X (fun cls d _ H => E cls d H) Hf F r D := by
  unfold outRv at h
  cases r with
  | next ρ' =>
    exact fun σ' H' Hf' sm s' => by
      obtain ⟨its, sb, hs, t, s2⟩ := s'.ex
      have s3 : SX X.K Hf' [] (fr (sb ++ F) Hf'.m) H' := SX.tail (A := its) (B := []) (show SX X.K Hf' (its ++ []) _ H' by rw [List.append_nil]; exact s2)
      exact hn _ _ (h .non H' Hf' sb sm t (s3.add .non))
  | ret o ρ' =>
    exact fun v σ' H' Hf' sm s' => by
      obtain ⟨its, sb, hs, t, s2⟩ := s'.ex
      exact hr _ _ (h v H' Hf' sb sm t (SX.head (A := [(v, o)]) s2))
  | brk ρ' => exact h.elim
  | cnt ρ' => exact h.elim
  | exc e ρ' =>
    exact fun σ' H' Hf' cls d sm s' x => by
      obtain ⟨its, sb, hs, t, s2⟩ := s'.ex
      exact h H' Hf' cls d sb sm t (SX.tail (A := its) (B := []) (show SX X.K Hf' (its ++ []) _ H' by rw [List.append_nil]; exact s2)) x
  | stk => exact h.elim
section
variable {P : Program} {w : World} {K : PySem.W.Frag} {mg : Str → Option Value} {base : Heap}
end
abbrev DK := Sum Key (List Key)
def asKey : PyData → Option Key
  | .int i => some (.inl i)
  | .str x => some (.inr x)
  | _ => none
def asKeys : List PyData → Option (List Key)
  | [] => some []
  | d :: ds => match asKey d, asKeys ds with
    | some k, some ks => some (k :: ks)
    | _, _ => none
def asDK : PyData → Option DK
  | .int i => some (.inl (.inl i))
  | .str x => some (.inl (.inr x))
  | .tuple ds => (asKeys ds).map .inr
  | _ => none
def fineK : DK → Bool
  | .inl _ => true
  | .inr ks => (ks.any fun k => match k with
    | .inl _ => true
    | .inr _ => false) && decide (ks.length ≠ 3)
theorem asKey_kD (k : Key) : asKey (kD k) = some k := by cases k <;> rfl
theorem asKeys_kD : ∀ ks : List Key, asKeys (ks.map kD) = some ks
  | [] => rfl
  | k :: ks => by rw [List.map_cons, asKeys, asKey_kD, asKeys_kD ks]
theorem asKey_inv {d : PyData} {k : Key} (h : asKey d = some k) : d = kD k := by
  cases d <;> simp [asKey] at h <;> subst h <;> rfl
theorem asKeys_inv : ∀ {ds : List PyData} {ks : List Key}, asKeys ds = some ks → ds = ks.map kD
  | [], ks, h => by simp [asKeys] at h; subst h; rfl
  | d :: ds, ks, h => by
    rw [asKeys] at h
    split at h
    · rename_i k ks' h1 h2
      cases h
      rw [List.map_cons, ← asKey_inv h1, ← asKeys_inv h2]
    · cases h
theorem asDK_kD (k : Key) : asDK (kD k) = some (.inl k) := by cases k <;> rfl
theorem asDK_ktD (ks : List Key) : asDK (ktD ks) = some (.inr ks) := by simp [asDK, ktD, asKeys_kD]
theorem asDK_inl {d : PyData} {k : Key} (h : asDK d = some (.inl k)) : d = kD k := by
  cases d <;> simp [asDK] at h <;> subst h <;> rfl
theorem asDK_inr {d : PyData} {ks : List Key} (h : asDK d = some (.inr ks)) : d = ktD ks := by
  cases d with
  | tuple ds =>
    simp only [asDK, Option.map_eq_some_iff] at h
    obtain ⟨ks', h1, h2⟩ := h
    cases h2
    rw [asKeys_inv h1]; rfl
  | _ => simp [asDK] at h
def dLook (kvs : List (PyData × PyData)) (k : PyData) : Option PyData := match asDK k with
  | some q => (kvs.find? fun p => decide (asDK p.1 = some q)).map (·.2)
  | none => none
def okK (kvs : List (PyData × PyData)) (k : PyData) : Bool := match asDK k with
  | some (.inl _) => isK kvs
  | some (.inr ks) => isT kvs && fineK (.inr ks)
  | none => false
section
variable {K : PySem.W.Frag} {H : Hg}
theorem rp_key {y : V} {k : Key} (h : Rp K H y (kD k)) : y = kV k := by
  cases k with
  | inl i => exact rp_int h
  | inr x => exact rp_str h
theorem rpAll_keys : ∀ {ys : List V} {ks : List Key}, RpAll K H ys (ks.map kD) → ys = ks.map kV
  | _, [], .nil => rfl
  | _, k :: ks, .cons h r => by rw [rp_key h, rpAll_keys r]; rfl
theorem rp_keyT {y : V} {ks : List Key} (h : Rp K H y (ktD ks)) (hf : fineK (.inr ks) = true) : ∃ b, y = .ref b ∧ H.h b = some (.tup (ks.map kV)) := by
  generalize hd : ktD ks = d at h
  cases h with
  | tup h r =>
    cases hd
    exact ⟨_, rfl, by rw [← rpAll_keys r]; exact h⟩
  | tup3 _ h l r =>
    cases hd
    exfalso
    rw [List.length_map] at l
    rw [fineK, l] at hf
    simp at hf
  | tupK h n =>
    rename_i xs
    exfalso
    have e : ks.map kD = xs.map PyData.str := by injection hd
    have : ∀ (ks : List Key) (xs : List Str), ks.map kD = xs.map PyData.str → (ks.any fun k => match k with | .inl _ => true | .inr _ => false) = false := by
      intro ks
      induction ks with
      | nil => intro _ _; rfl
      | cons k ks ih =>
        intro xs e
        cases xs with
        | nil => cases e
        | cons x xs =>
          injection e with e1 e2
          cases k with
          | inl i => cases e1
          | inr z => simp only [List.any_cons, Bool.false_or]; exact ih xs e2
    rw [fineK, this ks xs e] at hf
    cases hf
  | non => cases hd
  | bl => cases hd
  | int => cases hd
  | str => cases hd
  | lst => cases hd
  | dk => cases hd
  | dt => cases hd
  | hd => cases hd
theorem find_zip {κ : Type} [DecidableEq κ] {key : κ → PyData} {q : κ → DK} (hq : ∀ k, asDK (key k) = some (q k)) (inj : ∀ a b, q a = q b → a = b) : ∀ {kvs : List (κ × V)} {ds : List PyData} {k : κ}, RpAll K H (kvs.map (·.2)) ds →
    (∀ d, (((kvs.map fun p => key p.1).zip ds).find? fun p => decide (asDK p.1 = some (q k))).map (·.2) = some d → ∃ v, valV kvs k = some v ∧ Rp K H v d) ∧ ((((kvs.map fun p => key p.1).zip ds).find? fun p => decide (asDK p.1 = some (q k))).map (·.2)).isSome = (valV kvs k).isSome
  | [], _, k, r => ⟨fun d h => by simp at h, by simp [valV]⟩
  | (k', v) :: kvs, d :: ds, k, .cons h r => by
    obtain ⟨ih1, ih2⟩ := find_zip hq inj (kvs := kvs) (ds := ds) (k := k) r
    simp only [List.map_cons, List.zip_cons_cons, List.find?_cons, hq]
    by_cases e : k' = k
    · subst e
      simp only [decide_true, Option.map_some]
      refine ⟨fun d' h' => ?_, ?_⟩
      · cases h'
        exact ⟨v, valV_pos (p := (k', v)) rfl, h⟩
      · rw [valV_pos (p := (k', v)) rfl]; rfl
    · have ne : ¬ some (q k') = some (q k) := fun z => e (inj _ _ (Option.some.inj z))
      simp only [decide_eq_false ne]
      rw [valV_neg (p := (k', v)) (by exact e)]
      exact ⟨ih1, ih2⟩
theorem rp_dget {x y : V} {kvs : List (PyData × PyData)} {k : PyData} (hx : Rp K H x (.dict kvs)) (hy : Rp K H y k) (ok : okK kvs k = true) : ∃ a o, x = .ref a ∧ DGet H.h a y o ∧ o.isSome = (dLook kvs k).isSome ∧ ∀ d, dLook kvs k = some d → ∃ v, o = some v ∧ Rp K H v d := by
  unfold okK at ok
  unfold dLook
  cases q : asDK k with
  | none => rw [q] at ok; cases ok
  | some dk =>
    rw [q] at ok
    generalize hd : PyData.dict kvs = dd at hx
    cases hx with
    | dk hr r =>
      rename_i a kv ds
      cases hd
      cases dk with
      | inl key =>
        have e := asDK_inl q
        subst e
        have ey := rp_key hy
        subst ey
        obtain ⟨f1, f2⟩ := find_zip (key := kD) (q := .inl) asDK_kD (fun a b z => Sum.inl.inj z) (k := key) r
        exact ⟨_, _, rfl, .inl ⟨_, key, hr, rfl, rfl⟩, f2.symm, fun d hd => by
          obtain ⟨v, h1, h2⟩ := f1 d hd
          exact ⟨v, h1, h2⟩⟩
      | inr ks =>
        exfalso
        have ok : (isT _ && fineK (.inr ks)) = true := ok
        rw [Bool.and_eq_true] at ok
        have h1 := ok.1
        cases kv with
        | nil => cases h1
        | cons p kv =>
          cases ds with
          | nil => cases r
          | cons d ds =>
            obtain ⟨k', v⟩ := p
            cases k' <;> cases h1
    | hd h =>
      cases hd
      cases dk with
      | inl key => cases ok
      | inr ks => cases ok
    | dt hr r =>
      rename_i a kv ds
      cases hd
      cases dk with
      | inl key => cases ok
      | inr ks =>
        have ok : (isT _ && fineK (.inr ks)) = true := ok
        rw [Bool.and_eq_true] at ok
        have e := asDK_inr q
        subst e
        obtain ⟨b, rfl, hb⟩ := rp_keyT hy ok.2
        obtain ⟨f1, f2⟩ := find_zip (key := ktD) (q := .inr) asDK_ktD (fun a b z => Sum.inr.inj z) (k := ks) r
        have skip : ∀ l : List (PyData × PyData), (((PyData.none, PyData.none) :: l).find? fun p => decide (asDK p.1 = some (.inr ks))) = l.find? fun p => decide (asDK p.1 = some (.inr ks)) := fun l => by
          rw [List.find?_cons]
          have : decide (asDK PyData.none = some (Sum.inr ks)) = false := by simp [asDK]
          simp only [this]
        simp only [skip]
        exact ⟨_, _, rfl, .inr ⟨_, ks, b, hr, rfl, hb, rfl⟩, f2.symm, fun d hd => by
          obtain ⟨v, h1, h2⟩ := f1 d hd
          exact ⟨v, h1, h2⟩⟩
    | non => cases hd
    | bl => cases hd
    | int => cases hd
    | str => cases hd
    | lst => cases hd
    | tup => cases hd
    | tup3 => cases hd
    | tupK => cases hd
end
def rIxD : R2 := fun x y H Q => ∃ a v, x = .ref a ∧ DGet H a y (some v) ∧ Q v H
theorem ix_dict (hu : X.A.units + 1 < cLine) : IxR X rIxD := by
  intro value slice pins s σ H x y v u Q I rx ry h hs
  obtain ⟨a, z, rfl, g, q⟩ := h
  cases rx
  exact tail_any (dict_typeIs I g) PySem.F.slot_dict_getitem.lookup (d_getItem hu I g ry fun w' s3 I3 rw' => ⟨z, H, I3, rw', q⟩) hs
def gSub (a b : OV) : Option OV := match fz a, fz b with
  | .list ds, .int i => (atI ds i).map .sh
  | .tuple ds, .int i => (atI ds i).map .sh
  | .str z, .int i => if z.length ≤ sizeLine then (atI z.cps.toList i).map fun c => .sh (.str ⟨#[c]⟩) else none
  | .dict kvs, k => if okK kvs k = true then (dLook kvs k).map .sh else none
  | _, _ => none
theorem rpAll_at {K : PySem.W.Frag} {H : Hg} {vs : List V} {ds : List PyData} {i : Int} {d : PyData} (r : RpAll K H vs ds) (h : atI ds i = some d) : ∃ v, atI vs i = some v ∧ Rp K H v d := by
  unfold atI at h ⊢
  rw [r.len]
  cases q : ixN ds.length i with
  | none => rw [q] at h; cases h
  | some j =>
    rw [q] at h
    exact r.get h
abbrev rSub (K : PySem.W.Frag) : R2 := fun x y H Q => rIx K x y H Q ∨ rIxD x y H Q
theorem op2_sub {K : PySem.W.Frag} : Op2 K (rSub K) gSub := by
  intro Hf its F H x y a b c Q s h q
  obtain ⟨Hf', sm, s'⟩ := s.freeze2
  have q' : ∀ v H' Hf2, Same Hf' Hf2 → SX K Hf2 ((v, c) :: its) F H' → Q v H' := fun v H' Hf2 z => q v H' Hf2 (sm.trans z)
  unfold gSub at h
  generalize fz a = da at *
  generalize fz b = db at *
  have ry := s'.rp
  have rx := s'.drop.rp
  have s2 := s'.drop.drop
  split at h
  · obtain ⟨d, hd, rfl⟩ := Option.map_eq_some_iff.mp h
    obtain ⟨p1, xs, rfl, t1, r1⟩ := rx.sqL
    have e2 := rp_int ry
    subst e2
    obtain ⟨v, hv, rv⟩ := rpAll_at r1 hd
    exact .inl (.inl ⟨p1, xs, _, v, rfl, rfl, s'.sub.sqL t1, hv, q' _ _ _ (Same.refl _) (s2.add rv)⟩)
  · obtain ⟨d, hd, rfl⟩ := Option.map_eq_some_iff.mp h
    obtain ⟨p1, xs, rfl, t1, r1⟩ := rx.sqT
    have e2 := rp_int ry
    subst e2
    obtain ⟨v, hv, rv⟩ := rpAll_at r1 hd
    exact .inl (.inr (.inl ⟨p1, xs, _, v, rfl, rfl, s'.sub.sqT t1, hv, q' _ _ _ (Same.refl _) (s2.add rv)⟩))
  · split at h
    · rename_i hz
      obtain ⟨d, hd, rfl⟩ := Option.map_eq_some_iff.mp h
      have e1 := rp_str rx
      have e2 := rp_int ry
      subst e1 e2
      exact .inl (.inr (.inr ⟨_, _, d, rfl, rfl, hz, hd, q' _ _ _ (Same.refl _) (s2.add (.str _))⟩))
    · cases h
  · split at h
    · rename_i ok
      obtain ⟨d, hd, rfl⟩ := Option.map_eq_some_iff.mp h
      obtain ⟨ad, o, rfl, hg, _, f⟩ := rp_dget (rx.mono s'.sub) (ry.mono s'.sub) ok
      obtain ⟨ad', o', e', hg', _, f'⟩ := rp_dget rx ry ok
      obtain ⟨v, rfl, rv⟩ := f' d hd
      cases e'
      refine .inr ⟨ad, v, rfl, ?_, q' _ _ _ (Same.refl _) (s2.add rv)⟩
      rcases hg' with ⟨kvs, k, e, ey, l⟩ | ⟨kvs, k, b, e, ey, eb, l⟩
      · exact .inl ⟨kvs, k, s'.sub.rd e, ey, l⟩
      · exact .inr ⟨kvs, k, b, s'.sub.rd e, ey, s'.sub.tup eb, l⟩
    · cases h
  · cases h
theorem ev_sub_ix (G : Good X W n) (ha : EvE X W a fa) (hb : EvE X W b fb) (hs : PlainIx b := by intro _ _; rfl) : EvE X W (.Subscript a b pos) (eBin gSub fa fb) := ev_top op2_sub (pe_ix (ix_seq.or (ix_dict (by have := G.hu; omega))) ha hb hs)
end
section
variable {X : Cx} {W : WX} {e a b c : Expr} {es rest : List Expr} {f fa fb fc : Rho → Re} {ta tb : Rho → ReB} {fl : Rho → ReL} {p pos : Pos} {n m k : Nat} {x : Str}
def flatD : PyData → Bool
  | .none => true | .bool _ => true | .int _ => true | .str _ => true | _ => false
theorem flat_rp {K : PySem.W.Frag} {H : Hg} {v : V} {d : PyData} (r : Rp K H v d) (h : flatD d = true) : flatV v = true := by
  cases r <;> first | rfl | (exact absurd (show false = true from h) Bool.false_ne_true)
theorem flat_eq {K : PySem.W.Frag} {H : Hg} {v w : V} {d e : PyData} (r : Rp K H v d) (q : Rp K H w e) (h : flatD d = true) (h' : flatD e = true) : eqV v w = PyData.eqv d e := by
  cases r <;> first
    | (exact absurd (show false = true from h) Bool.false_ne_true)
    | (cases q <;> first
        | (exact absurd (show false = true from h') Bool.false_ne_true)
        | (simp only [eqV, PyData.eqv]; done)
        | rfl)
theorem flat_all {K : PySem.W.Frag} {H : Hg} {v : V} {d : PyData} (r : Rp K H v d) (h : flatD d = true) : ∀ {vs : List V} {ds : List PyData}, RpAll K H vs ds → ds.all flatD = true → vs.all flatV = true ∧ inV v vs = ds.any fun z => PyData.eqv z d
  | _, _, .nil, _ => ⟨rfl, rfl⟩
  | _, _, .cons q t, hd => by
    rw [List.all_cons, Bool.and_eq_true] at hd
    obtain ⟨h1, h2⟩ := flat_all r h t hd.2
    refine ⟨by rw [List.all_cons, flat_rp q hd.1, h1]; rfl, ?_⟩
    unfold inV at h2 ⊢
    rw [List.any_cons, List.any_cons, flat_eq q r hd.1 h, h2]
def gIn (neg : Bool) (a b : OV) : Option OV := match fz b with
  | .list ds => if SeqAt.shaped (fz a) = true ∧ SeqAt.shaped (.list ds) = true then some (.sh (.bool (neg ^^ ds.any fun z => PyData.eqv z (fz a)))) else none
  | .tuple ds => if flatD (fz a) = true ∧ ds.all flatD = true then some (.sh (.bool (neg ^^ ds.any fun z => PyData.eqv z (fz a)))) else none
  | .dict kvs => if okK kvs (fz a) = true then some (.sh (.bool (neg ^^ (dLook kvs (fz a)).isSome))) else none
  | .str z => match fz a with
    | .str y => some (.sh (.bool (neg ^^ !(Builtin.Str.occurrences z y 0 z.length 1).isEmpty)))
    | _ => none
  | _ => none
def rInDict (neg : Bool) : R2 := fun x y H Q => ∃ a o, y = .ref a ∧ DGet H a x o ∧ Q (.bl (neg ^^ o.isSome)) H
def rInStr (neg : Bool) : R2 := fun x y H Q => ∃ i j, x = .str i ∧ y = .str j ∧ Q (.bl (neg ^^ !(Builtin.Str.occurrences j i 0 j.length 1).isEmpty)) H
def rInL (K : PySem.W.Frag) (neg : Bool) : R2 := fun x y H Q => ∃ d ds, Dp K H x d ∧ Dp K H y (.list ds) ∧ SeqAt.shaped d = true ∧ SeqAt.shaped (.list ds) = true ∧ Q (.bl (neg ^^ ds.any fun z => PyData.eqv z d)) H
abbrev rInAll (K : PySem.W.Frag) (neg : Bool) : R2 := fun x y H Q => rIn K neg x y H Q ∨ (rInL K neg x y H Q ∨ (rInDict neg x y H Q ∨ rInStr neg x y H Q))
theorem opr_in (G : Good X W n) : OpR X (compareOp .In) (rInAll X.K false) := by
  refine OpR.or op_in_seq (OpR.or (fun pins s σ H x y v u Q I rx ry ⟨d, ds, h1, h2, h3, h4, q⟩ => op_inD G.hu pins s σ H x y v u Q I rx ry ⟨d, ds, h1, h2, h3, h4, by simpa using q⟩) (OpR.or ?_ ?_))
  · intro pins s σ H x y v u Q I rx ry ⟨a, o, e, g, q⟩
    subst e
    cases ry
    exact d_in (by have := G.hu; omega) I g rx fun s' I' => ⟨.bl o.isSome, H, I', rfl, by simpa using q⟩
  · intro pins s σ H x y v u Q I rx ry ⟨i, j, e1, e2, q⟩
    exact op_in_str pins s σ H x y v u Q I rx ry ⟨i, j, e1, e2, by simpa using q⟩
theorem opr_notin (G : Good X W n) : OpR X (compareOp .NotIn) (rInAll X.K true) := by
  refine OpR.or op_notIn_seq (OpR.or (fun pins s σ H x y v u Q I rx ry ⟨d, ds, h1, h2, h3, h4, q⟩ => op_notInD G.hu pins s σ H x y v u Q I rx ry ⟨d, ds, h1, h2, h3, h4, by simpa using q⟩) (OpR.or ?_ ?_))
  · intro pins s σ H x y v u Q I rx ry ⟨a, o, e, g, q⟩
    subst e
    cases ry
    exact d_notIn (by have := G.hu; omega) I g rx fun s' I' => ⟨.bl (!o.isSome), H, I', rfl, by simpa using q⟩
  · intro pins s σ H x y v u Q I rx ry ⟨i, j, e1, e2, q⟩
    exact op_notin_str pins s σ H x y v u Q I rx ry ⟨i, j, e1, e2, by simpa using q⟩
theorem op2_in {K : PySem.W.Frag} (neg : Bool) : Op2 K (rInAll K neg) (gIn neg) := by
  intro Hf its F H x y a b c Q s h q
  have ry := s.rdH
  have rx := s.drop.rdH
  have s2 := s.drop.drop
  have fin : ∀ k, c = .sh (.bool k) → Q (.bl k) H := fun k e => by
    subst e
    exact q _ _ _ (Same.refl _) (s2.add (.bl _))
  unfold gIn at h
  generalize fz a = da at *
  generalize fz b = db at *
  split at h
  · split at h
    · rename_i hc
      cases h
      exact .inr (.inl ⟨_, _, rx.dp (SeqAt.canLay_of_shaped hc.1), ry.dp (SeqAt.canLay_of_shaped hc.2), hc.1, hc.2, fin _ rfl⟩)
    · cases h
  · split at h
    · rename_i hc
      cases h
      obtain ⟨p1, ys, rfl, t1, r1⟩ := ry.sqT
      obtain ⟨h1, h2⟩ := flat_all rx hc.1 r1 hc.2
      refine .inl ⟨p1, ys, rfl, .inr t1, flat_rp rx hc.1, h1, ?_⟩
      cases neg with
      | false => rw [if_neg Bool.false_ne_true, h2]; exact fin _ (by rw [Bool.false_xor])
      | true => rw [if_pos rfl, h2]; exact fin _ (by rw [Bool.true_xor])
    · cases h
  · split at h
    · rename_i ok
      cases h
      obtain ⟨ad, o, rfl, hg, he, _⟩ := rp_dget ry rx ok
      exact .inr (.inr (.inl ⟨ad, o, rfl, hg, by rw [he]; exact fin _ rfl⟩))
    · cases h
  · split at h
    · cases h
      have e1 := rp_str rx
      have e2 := rp_str ry
      subst e1 e2
      exact .inr (.inr (.inr ⟨_, _, rfl, rfl, fin _ rfl⟩))
    · cases h
  · cases h
theorem ec_in (G : Good X W n) (ha : EvE X W a fa) (hb : EvE X W b fb) : EvC X W .In a b (eBin (gIn false) fa fb) := ec_op (opr_in G) (op2_in false) ha hb
theorem ec_notin (G : Good X W n) (ha : EvE X W a fa) (hb : EvE X W b fb) : EvC X W .NotIn a b (eBin (gIn true) fa fb) := ec_op (opr_notin G) (op2_in true) ha hb
def OpN (K : PySem.W.Frag) (r : List V → Hp → VK → Prop) (g : List OV → Option OV) : Prop :=
  ∀ (Hf : Hg) (its : Its) (F : Fr) (H : Hp) (vs : List V) (os : List OV) (c : OV) (Q : VK), vs.length = os.length → SX K Hf (vs.zip os ++ its) F H → g os = some c →
    (∀ v H' Hf', Same Hf Hf' → SX K Hf' ((v, c) :: its) F H' → Q v H') → r vs H Q
def eFn (g : List OV → Option OV) (fl : Rho → ReL) (ρ : Rho) : Re := bindL (fl ρ) fun os ρ1 => ofO (g os) ρ1
theorem fn_post {r : List V → Hp → VK → Prop} {g : List OV → Option OV} (ho : OpN X.K r g) {σ : St} {H : Hp} {Q : VK} {Hf : Hg} {T : Its} {ρ : Rho} {F : Bs} (s : SI X.K Hf T ρ F σ H) (h : PostE X W Hf T F σ (eFn g fl ρ) Q) : tL X W fl σ H fun vs H1 => r vs H1 Q :=
  ⟨Hf, T, ρ, F, s, PostL.bind h fun os ρ1 vs H1 Hf1 l sm s1 h1 => by
    cases q : g os with
    | none => rw [q] at h1; exact h1.elim
    | some c =>
      rw [q] at h1
      obtain ⟨its, F2, s2, bk⟩ := s1.ex2
      rw [List.append_assoc] at s2
      exact ho Hf1 (T ++ its) F2 H1 vs os c Q l s2 q fun v H' Hf' sm' s' => h1 v H' Hf' sm' (bk _ _ _ sm' s')⟩
theorem ev_fnB {id : String} {r : List V → Hp → VK → Prop} {g : List OV → Option OV} (hc : CallR X (.builtin id) r) (ho : OpN X.K r g) (hg : Gl X x) (hm : X.mg x = none) (hv : bootBuiltins x = some (.builtin id)) (ha : EvL X W (e :: es) fl) (hn : x ≠ "__name__" := by decide) (hdb : (x == ("__debug__" : Str)) = false := by decide)
    (he : starEach (e :: es) X.env = (false, eval e X.env) :: starEach es X.env := by rfl) (hpl : (backTo pos (starEach es X.env)).any (·.1) = false := by rfl) : EvE X W (.Call (.Name x p) (e :: es) [] pos) (eFn g fl) :=
  pe_w (pe_callB hc hg hm hv ha hn hdb he hpl) fun σ H Q ⟨Hf, T, ρ, F, s, h⟩ => fn_post ho s h
theorem ev_fnT {id : String} {r : List V → Hp → VK → Prop} {g : List OV → Option OV} (hc : CallR X (.type id) r) (ho : OpN X.K r g) (hg : Gl X x) (hm : X.mg x = none) (hv : bootBuiltins x = some (.type id)) (ha : EvL X W (e :: es) fl) (hn : x ≠ "__name__" := by decide) (hdb : (x == ("__debug__" : Str)) = false := by decide)
    (he : starEach (e :: es) X.env = (false, eval e X.env) :: starEach es X.env := by rfl) (hpl : (backTo pos (starEach es X.env)).any (·.1) = false := by rfl) : EvE X W (.Call (.Name x p) (e :: es) [] pos) (eFn g fl) :=
  pe_w (pe_callTy hc hg hm hv ha hn hdb he hpl) fun σ H Q ⟨Hf, T, ρ, F, s, h⟩ => fn_post ho s h
theorem opN1 {K : PySem.W.Frag} {r : List V → Hp → VK → Prop} {g : PyData → Option OV} (h : ∀ Hf its F H v d c Q, SX K Hf its F H → Rp K Hf v d → g d = some c → (∀ v H' Hf', Same Hf Hf' → SX K Hf' ((v, c) :: its) F H' → Q v H') → r [v] H Q) :
    OpN K r fun os => match os with | [o] => g (fz o) | _ => none := by
  intro Hf its F H vs os c Q l s hg q
  simp only at hg
  split at hg
  · rename_i o
    match vs, l with
    | [v], _ =>
      obtain ⟨Hf', sm, s'⟩ := SX.freeze (its := its) s
      exact h Hf' its F H v (fz o) c Q s'.drop s'.rp hg fun v H' Hf2 z => q v H' Hf2 (sm.trans z)
  · cases hg
theorem opN2 {K : PySem.W.Frag} {r : List V → Hp → VK → Prop} {g : PyData → PyData → Option OV} (h : ∀ Hf its F H v w d d' c Q, SX K Hf its F H → Rp K Hf v d → Rp K Hf w d' → g d d' = some c → (∀ v H' Hf', Same Hf Hf' → SX K Hf' ((v, c) :: its) F H' → Q v H') → r [v, w] H Q) :
    OpN K r fun os => match os with | [o, o'] => g (fz o) (fz o') | _ => none := by
  intro Hf its F H vs os c Q l s hg q
  simp only at hg
  split at hg
  · rename_i o o'
    match vs, l with
    | [v, w], _ =>
      obtain ⟨Hf', sm, r, s'⟩ := SX.freezeAll (its := its) [v, w] [o, o'] Hf rfl s
      cases r with
      | cons r1 r =>
        cases r with
        | cons r2 r => exact h Hf' its F H v w (fz o) (fz o') c Q s' r1 r2 hg fun v H' Hf2 z => q v H' Hf2 (sm.trans z)
  · cases hg
abbrev g1 (g : PyData → Option OV) : List OV → Option OV := fun os => match os with | [o] => g (fz o) | _ => none
abbrev g2 (g : PyData → PyData → Option OV) : List OV → Option OV := fun os => match os with | [o, o'] => g (fz o) (fz o') | _ => none
def dLen : PyData → Option OV
  | .list ds => some (.sh (.int ds.length))
  | .tuple ds => some (.sh (.int ds.length))
  | .str z => if z.length ≤ sizeLine then some (.sh (.int z.length)) else none
  | .dict ((.none, .none) :: kvs) => some (.sh (.int kvs.length))
  | _ => none
abbrev rLen (K : PySem.W.Frag) : List V → Hp → VK → Prop := fun xs H Q => (∃ p ys, xs = [.ref p] ∧ (SqL K H p ys ∨ SqT K H p ys) ∧ Q (.int ys.length) H) ∨ ∃ z, xs = [.str z] ∧ z.length ≤ sizeLine ∧ Q (.int z.length) H
def rLenR : List V → Hp → VK → Prop := fun xs H Q => ∃ (p : Addr) (kvs : List (List Key × V)), xs = [.ref p] ∧ Rd H p (.dT kvs) ∧ Q (.int ((kvs.length : Nat) : Int)) H
theorem call_len_rd {X : Cx} : CallR X (.builtin "len") rLenR := by
  intro pins s σ H xs us Q I r h
  obtain ⟨p, kvs, rfl, hp, q⟩ := h
  obtain ⟨u, rfl, rx⟩ := vals1 r
  obtain rfl : u = .ref p := rx
  obtain ⟨z, hd, ys, rel, dd⟩ := dt_rd I.hok hp
  have hl : kvs.length = ys.length := Paired.length rel
  refine call_len_dictH hd dd (by rw [← hl]; rw [sizeLine_eq] at z; omega) ?_
  rw [← hl]
  exact ⟨.int ((kvs.length : Nat) : Int), H, I.tok _, ⟨_, rfl⟩, q⟩
theorem rp_dt {K : PySem.W.Frag} {H : Hg} {v : V} {kvs : List (PyData × PyData)} (r : Rp K H v (.dict ((.none, .none) :: kvs))) : ∃ (a : Addr) (l : List (List Key × V)), v = .ref a ∧ Rd H.h a (.dT l) ∧ l.length = kvs.length := by
  generalize hd : PyData.dict ((.none, .none) :: kvs) = d at r
  cases r with
  | @dk a l ds h1 h2 =>
    cases hd' : l with
    | nil => rw [hd'] at hd; simp at hd
    | cons p l' =>
      rw [hd'] at hd
      cases ds with
      | nil => simp at hd
      | cons d1 ds =>
        simp only [List.map_cons, List.zip_cons_cons, PyData.dict.injEq, List.cons.injEq, Prod.mk.injEq] at hd
        exact absurd hd.1.1 (by cases p.1 <;> simp [kD])
  | @dt a l ds h1 h2 =>
    have hl := h2.len
    simp only [PyData.dict.injEq, List.cons.injEq] at hd
    refine ⟨a, l, rfl, h1, ?_⟩
    rw [hd.2, List.length_zip, List.length_map]
    rw [List.length_map] at hl
    omega
  | _ => cases hd
theorem opn_len {K : PySem.W.Frag} : OpN K (fun xs H Q => rLen K xs H Q ∨ rLenR xs H Q) (g1 dLen) := opN1 fun Hf its F H v d c Q s r h q => by
  unfold dLen at h
  split at h
  · cases h
    obtain ⟨p1, ys, rfl, t1, r1⟩ := r.sqL
    exact .inl (.inl ⟨p1, ys, rfl, .inl (s.sub.sqL t1), by rw [r1.len]; exact q _ _ _ (Same.refl _) (s.add (.int _))⟩)
  · cases h
    obtain ⟨p1, ys, rfl, t1, r1⟩ := r.sqT
    exact .inl (.inl ⟨p1, ys, rfl, .inr (s.sub.sqT t1), by rw [r1.len]; exact q _ _ _ (Same.refl _) (s.add (.int _))⟩)
  · split at h
    · rename_i hz
      cases h
      have e := rp_str r
      subst e
      exact .inl (.inr ⟨_, rfl, hz, q _ _ _ (Same.refl _) (s.add (.int _))⟩)
    · cases h
  · cases h
    obtain ⟨a, l, rfl, h1, h2⟩ := rp_dt r
    exact .inr ⟨a, l, rfl, s.sub.rd h1, by rw [h2]; exact q _ _ _ (Same.refl _) (s.add (.int _))⟩
  · cases h
structure BIn (X : Cx) (x : Str) (id : String) (g : List OV → Option OV) : Prop where
  ex : ∃ r, CallR X (.builtin id) r ∧ OpN X.K r g
  nm : X.mg x = none
  bt : bootBuiltins x = some (.builtin id)
structure BTy (X : Cx) (x : Str) (id : String) (g : List OV → Option OV) : Prop where
  ex : ∃ r, CallR X (.type id) r ∧ OpN X.K r g
  nm : X.mg x = none
  bt : bootBuiltins x = some (.type id)
theorem ev_b {id : String} {g : List OV → Option OV} (B : BIn X x id g) (hg : Gl X x) (ha : EvL X W (e :: es) fl) (hn : x ≠ "__name__" := by decide) (hdb : (x == ("__debug__" : Str)) = false := by decide)
    (he : starEach (e :: es) X.env = (false, eval e X.env) :: starEach es X.env := by rfl) (hpl : (backTo pos (starEach es X.env)).any (·.1) = false := by rfl) : EvE X W (.Call (.Name x p) (e :: es) [] pos) (eFn g fl) := by
  obtain ⟨r, hc, ho⟩ := B.ex
  exact ev_fnB hc ho hg B.nm B.bt ha hn hdb he hpl
theorem ev_ty {id : String} {g : List OV → Option OV} (B : BTy X x id g) (hg : Gl X x) (ha : EvL X W (e :: es) fl) (hn : x ≠ "__name__" := by decide) (hdb : (x == ("__debug__" : Str)) = false := by decide)
    (he : starEach (e :: es) X.env = (false, eval e X.env) :: starEach es X.env := by rfl) (hpl : (backTo pos (starEach es X.env)).any (·.1) = false := by rfl) : EvE X W (.Call (.Name x p) (e :: es) [] pos) (eFn g fl) := by
  obtain ⟨r, hc, ho⟩ := B.ex
  exact ev_fnT hc ho hg B.nm B.bt ha hn hdb he hpl
theorem b_len (hm : X.mg "len" = none) : BIn X "len" "len" (g1 dLen) := ⟨⟨_, (call_len_seq.or call_len_str).or call_len_rd, opn_len⟩, hm, boot_len⟩
def dAbs : PyData → Option OV
  | .int i => some (.sh (.int (if i < 0 then -i else i)))
  | _ => none
theorem b_abs (hm : X.mg "abs" = none) : BIn X "abs" "abs" (g1 dAbs) := ⟨⟨_, call_abs, opN1 fun Hf its F H v d c Q s r h q => by
  unfold dAbs at h
  split at h
  · cases h
    have e := rp_int r
    subst e
    exact ⟨_, rfl, q _ _ _ (Same.refl _) (s.add (.int _))⟩
  · cases h⟩, hm, by decide +kernel⟩
def intsOf : List PyData → Option (List Int)
  | [] => some []
  | .int i :: ds => (intsOf ds).map (i :: ·)
  | _ => none
def boolsOf : List PyData → Option (List Bool)
  | [] => some []
  | .bool i :: ds => (boolsOf ds).map (i :: ·)
  | _ => none
theorem rp_ints {K : PySem.W.Frag} {H : Hg} : ∀ {vs : List V} {ds : List PyData} {ns : List Int}, RpAll K H vs ds → intsOf ds = some ns → vs = ns.map V.int
  | _, _, _, .nil, h => by simp [intsOf] at h; subst h; rfl
  | _, _, ns, .cons (d := d) r t, h => by
    cases d with
    | int i =>
      obtain ⟨ms, h1, rfl⟩ := Option.map_eq_some_iff.mp h
      rw [rp_int r, rp_ints t h1]; rfl
    | _ => cases h
theorem rp_bls {K : PySem.W.Frag} {H : Hg} : ∀ {vs : List V} {ds : List PyData} {ns : List Bool}, RpAll K H vs ds → boolsOf ds = some ns → vs = ns.map V.bl
  | _, _, _, .nil, h => by simp [boolsOf] at h; subst h; rfl
  | _, _, ns, .cons (d := d) r t, h => by
    cases d with
    | bool i =>
      obtain ⟨ms, h1, rfl⟩ := Option.map_eq_some_iff.mp h
      rw [rp_bl r, rp_bls t h1]; rfl
    | _ => cases h
def maxI : List Int → Int
  | [] => 0
  | [x] => x
  | x :: y :: r => max x (maxI (y :: r))
def minI : List Int → Int
  | [] => 0
  | [x] => x
  | x :: y :: r => min x (minI (y :: r))
theorem maxI_spec : ∀ {ns : List Int}, ns ≠ [] → maxI ns ∈ ns ∧ ∀ y ∈ ns, y ≤ maxI ns
  | [x], _ => ⟨by simp [maxI], by simp [maxI]⟩
  | x :: y :: r, _ => by
    obtain ⟨h1, h2⟩ := maxI_spec (ns := y :: r) (by simp)
    have e : maxI (x :: y :: r) = max x (maxI (y :: r)) := rfl
    rw [e]
    refine ⟨?_, fun z hz => ?_⟩
    · by_cases h : x ≤ maxI (y :: r)
      · rw [Int.max_eq_right h]; exact List.mem_cons_of_mem _ h1
      · rw [Int.max_eq_left (by omega)]; exact List.mem_cons_self
    · rcases List.mem_cons.mp hz with rfl | hz
      · exact Int.le_max_left _ _
      · exact Int.le_trans (h2 z hz) (Int.le_max_right _ _)
theorem minI_spec : ∀ {ns : List Int}, ns ≠ [] → minI ns ∈ ns ∧ ∀ y ∈ ns, minI ns ≤ y
  | [x], _ => ⟨by simp [minI], by simp [minI]⟩
  | x :: y :: r, _ => by
    obtain ⟨h1, h2⟩ := minI_spec (ns := y :: r) (by simp)
    have e : minI (x :: y :: r) = min x (minI (y :: r)) := rfl
    rw [e]
    refine ⟨?_, fun z hz => ?_⟩
    · by_cases h : x ≤ minI (y :: r)
      · rw [Int.min_eq_left h]; exact List.mem_cons_self
      · rw [Int.min_eq_right (by omega)]; exact List.mem_cons_of_mem _ h1
    · rcases List.mem_cons.mp hz with rfl | hz
      · exact Int.min_le_left _ _
      · exact Int.le_trans (Int.min_le_right _ _) (h2 z hz)
section
variable {prog : Program} {w : World} {A : Around} {E : Value → Shared → Prop} {s : Shared} {l : Addr} {its : List Value} {ns : List Int} {Q : Value → Shared → Prop}
theorem iter_intTuple {xs : Array (Int × Tok)} (hl : s.heap.IsTuple l (intItems xs))
    (h : ∀ s₂ : Shared, s₂ = { s with heap := s.heap.push { cls := .type "tuple_iterator", data := .fields #[.ref l, .int 0 0] } } →
      (s₂.heap.IsTupleIter s.heap.objs.size l 0 ∧ s₂.heap.IsTuple l (intItems xs)) → (∀ b ∈ [s.heap.objs.size, l], b < s₂.heap.objs.size) → l ≠ s.heap.objs.size → Q (.ref s.heap.objs.size) s₂) :
    wpAny (model prog w) A (pyIter (.ref l)) Q E s := by
  have hlt : l < s.heap.objs.size := by obtain ⟨_, e, _⟩ := hl; exact Heap.lt_size e
  refine wpAny_pyIter_tuple hl (h _ rfl ⟨⟨_, Heap.get?_push_size _ rfl, rfl, rfl⟩, hl.push _⟩ (fun b hb => ?_) (Nat.ne_of_lt hlt))
  show b < (s.heap.push _).objs.size
  rw [Heap.size_push]
  rcases List.mem_cons.mp hb with rfl | hb
  · exact Nat.lt_succ_self _
  · rcases List.mem_cons.mp hb with rfl | hb
    · exact Nat.lt_succ_of_lt hlt
    · cases hb
theorem keptT {o : Obj} {h' : Heap} (hk : ∀ b x, b ∉ [s.heap.objs.size] → (s.heap.push o).get? b = some x → h'.get? b = some x) : ∀ b x, s.heap.get? b = some x → h'.get? b = some x :=
  fun b x e => hk b x (fun hm => by rw [List.mem_singleton.mp hm] at e; exact Nat.lt_irrefl _ (Heap.lt_size e)) (Heap.get?_push_of_some _ e)
theorem max_rawT (hh : A.handled = none) (hl : s.heap.IsTuple l its.toArray) (hi : IntsAre its ns) (hne : 0 < ns.length)
    (h : ∀ h' tk M t', (∀ b o, s.heap.get? b = some o → h'.get? b = some o) → M ∈ ns → (∀ a, a ∈ ns → a ≤ M) → Q (.int M t') { s with heap := h', toks := tk }) : wpAny (model prog w) A (call (.builtin "max") [.ref l]) Q E s := by
  obtain ⟨xs, e⟩ := hi.allInts.items
  have hn : numsOf (intItems xs).toList = ns := by rw [← e]; exact hi.numsOf
  rw [nums_intItems] at hn
  subst hn
  rw [e] at hl
  have hsz : 0 < xs.size := by simpa using hne
  refine call_max_walk (iter_intTuple hl fun s₂ e st hfp hlI => ?_)
  subst e
  refine ⟨_, _, _, _, _, _, _, rfl, Walks.tuple (A := A.in1) hh _ l hlI (intItems xs), st, hfp, by simpa [intItems] using hsz, CmpOf.ints_gt (numAt xs) (fun _ _ => intItems_at), fun v h' tk hP hk => ?_⟩
  have hv : (intItems xs)[argBest (fun i j => decide (numAt xs i > numAt xs j)) (xs.size - 1)]? = some v := by simpa [intItems] using hP
  obtain ⟨t, rfl⟩ := intItems_at hv
  obtain ⟨h1, h2⟩ := argBest_gt (numAt xs) (xs.size - 1)
  refine h h' tk _ t (keptT hk) ?_ fun a ha => ?_
  · rw [numAt_eq]; exact PySem.getD_mem (by rw [List.length_map, Array.length_toList]; omega)
  · obtain ⟨j, hj, rfl⟩ := mem_getD ha
    rw [List.length_map, Array.length_toList] at hj
    rw [← numAt_eq]; exact h2 j (by omega)
theorem min_rawT (hh : A.handled = none) (hl : s.heap.IsTuple l its.toArray) (hi : IntsAre its ns) (hne : 0 < ns.length)
    (h : ∀ h' tk M t', (∀ b o, s.heap.get? b = some o → h'.get? b = some o) → M ∈ ns → (∀ a, a ∈ ns → M ≤ a) → Q (.int M t') { s with heap := h', toks := tk }) : wpAny (model prog w) A (call (.builtin "min") [.ref l]) Q E s := by
  obtain ⟨xs, e⟩ := hi.allInts.items
  have hn : numsOf (intItems xs).toList = ns := by rw [← e]; exact hi.numsOf
  rw [nums_intItems] at hn
  subst hn
  rw [e] at hl
  have hsz : 0 < xs.size := by simpa using hne
  refine call_min_walk (iter_intTuple hl fun s₂ e st hfp hlI => ?_)
  subst e
  refine ⟨_, _, _, _, _, _, _, rfl, Walks.tuple (A := A.in1) hh _ l hlI (intItems xs), st, hfp, by simpa [intItems] using hsz, CmpOf.ints_lt (numAt xs) (fun _ _ => intItems_at), fun v h' tk hP hk => ?_⟩
  have hv : (intItems xs)[argBest (fun i j => decide (numAt xs i < numAt xs j)) (xs.size - 1)]? = some v := by simpa [intItems] using hP
  obtain ⟨t, rfl⟩ := intItems_at hv
  obtain ⟨h1, h2⟩ := argBest_lt (numAt xs) (xs.size - 1)
  refine h h' tk _ t (keptT hk) ?_ fun a ha => ?_
  · rw [numAt_eq]; exact PySem.getD_mem (by rw [List.length_map, Array.length_toList]; omega)
  · obtain ⟨j, hj, rfl⟩ := mem_getD ha
    rw [List.length_map, Array.length_toList] at hj
    rw [← numAt_eq]; exact h2 j (by omega)
end
def rMaxT (K : PySem.W.Frag) : List V → Hp → VK → Prop := fun vs H Q => ∃ (a : Addr) (ns : List Int), vs = [V.ref a] ∧ SqT K H a (ns.map V.int) ∧ 0 < ns.length ∧ ∀ m, m ∈ ns → (∀ y, y ∈ ns → y ≤ m) → Q (.int m) H
def rMinT (K : PySem.W.Frag) : List V → Hp → VK → Prop := fun vs H Q => ∃ (a : Addr) (ns : List Int), vs = [V.ref a] ∧ SqT K H a (ns.map V.int) ∧ 0 < ns.length ∧ ∀ m, m ∈ ns → (∀ y, y ∈ ns → m ≤ y) → Q (.int m) H
theorem cr_maxT {X : Cx} (hc : X.calm = true) : CallR X (.builtin "max") (rMaxT X.K) := by
  intro pins s σ H vs us Q I r h
  obtain ⟨a, ns, rfl, hs, hne, q⟩ := h
  obtain ⟨its, rv, hl, _⟩ := I.tuple hs
  rw [Vals.ref1 r]
  exact max_rawT (I.ok.hd hc) hl rv.ints hne fun h' tk m t' hk h1 h2 => ⟨.int _, H, I.kept hk, ⟨_, rfl⟩, q m h1 h2⟩
theorem cr_minT {X : Cx} (hc : X.calm = true) : CallR X (.builtin "min") (rMinT X.K) := by
  intro pins s σ H vs us Q I r h
  obtain ⟨a, ns, rfl, hs, hne, q⟩ := h
  obtain ⟨its, rv, hl, _⟩ := I.tuple hs
  rw [Vals.ref1 r]
  exact min_rawT (I.ok.hd hc) hl rv.ints hne fun h' tk m t' hk h1 h2 => ⟨.int _, H, I.kept hk, ⟨_, rfl⟩, q m h1 h2⟩
def gMax (two : Int → Int → Int) (many : List Int → Int) (os : List OV) : Option OV := match os with
  | [o, o'] => match fz o, fz o' with
    | .int i, .int j => some (.sh (.int (two i j)))
    | _, _ => none
  | [o] => match fz o with
    | .list ds => match intsOf ds with
      | some ns => if ns.isEmpty = true then none else some (.sh (.int (many ns)))
      | none => none
    | .tuple ds => match intsOf ds with
      | some ns => if ns.isEmpty = true then none else some (.sh (.int (many ns)))
      | none => none
    | _ => none
  | _ => none
abbrev max2 (i j : Int) : Int := if j > i then j else i
abbrev min2 (i j : Int) : Int := if j < i then j else i
theorem opn_max {K : PySem.W.Frag} : OpN K (fun xs H Q => (∃ i j, xs = [V.int i, V.int j] ∧ Q (.int (if j > i then j else i)) H) ∨ rMax K xs H Q ∨ rMaxT K xs H Q) (gMax max2 maxI) := by
  intro Hf its F H vs os c Q l s hg q
  unfold gMax at hg
  split at hg
  · exact opN2 (r := fun xs H Q => (∃ i j, xs = [V.int i, V.int j] ∧ Q (.int (if j > i then j else i)) H) ∨ rMax K xs H Q ∨ rMaxT K xs H Q) (g := fun d d' => match d, d' with | .int i, .int j => some (.sh (.int (max2 i j))) | _, _ => none)
      (fun Hf its F H v w d d' c Q s r r' h q => by
        split at h
        · cases h
          have e := rp_int r
          have e' := rp_int r'
          subst e e'
          exact .inl ⟨_, _, rfl, q _ _ _ (Same.refl _) (s.add (.int _))⟩
        · cases h) Hf its F H vs _ c Q l s hg q
  · rename_i o
    match vs, l with
    | [v], _ =>
      obtain ⟨Hf', sm, s'⟩ := SX.freeze (its := its) s
      split at hg
      · split at hg
        · rename_i e1 _ _ e2
          split at hg
          · cases hg
          · rename_i hne
            cases hg
            rw [e1] at s'
            obtain ⟨p1, ys, rfl, t1, r1⟩ := s'.rp.sqL
            have ey := rp_ints r1 e2
            subst ey
            rename_i ns _
            have hne' : ns ≠ [] := fun z => hne (by rw [z]; rfl)
            refine .inr (.inl ⟨p1, ns, rfl, s'.sub.sqL t1, by cases ns with | nil => exact absurd rfl hne' | cons _ _ => simp, fun m hm hle => ?_⟩)
            obtain ⟨g1, g2⟩ := maxI_spec hne'
            have e : m = maxI ns := Int.le_antisymm (g2 m hm) (hle _ g1)
            rw [e]
            exact q _ _ _ sm (s'.drop.add (.int _))
        · cases hg
      · split at hg
        · rename_i e1 _ _ e2
          split at hg
          · cases hg
          · rename_i hne
            cases hg
            rw [e1] at s'
            obtain ⟨p1, ys, rfl, t1, r1⟩ := s'.rp.sqT
            have ey := rp_ints r1 e2
            subst ey
            rename_i ns _
            have hne' : ns ≠ [] := fun z => hne (by rw [z]; rfl)
            refine .inr (.inr ⟨p1, ns, rfl, s'.sub.sqT t1, by cases ns with | nil => exact absurd rfl hne' | cons _ _ => simp, fun m hm hle => ?_⟩)
            obtain ⟨g1, g2⟩ := maxI_spec hne'
            have e : m = maxI ns := Int.le_antisymm (g2 m hm) (hle _ g1)
            rw [e]
            exact q _ _ _ sm (s'.drop.add (.int _))
        · cases hg
      · cases hg
  · cases hg
theorem opn_min {K : PySem.W.Frag} : OpN K (fun xs H Q => (∃ i j, xs = [V.int i, V.int j] ∧ Q (.int (if j < i then j else i)) H) ∨ rMin K xs H Q ∨ rMinT K xs H Q) (gMax min2 minI) := by
  intro Hf its F H vs os c Q l s hg q
  unfold gMax at hg
  split at hg
  · exact opN2 (r := fun xs H Q => (∃ i j, xs = [V.int i, V.int j] ∧ Q (.int (if j < i then j else i)) H) ∨ rMin K xs H Q ∨ rMinT K xs H Q) (g := fun d d' => match d, d' with | .int i, .int j => some (.sh (.int (min2 i j))) | _, _ => none)
      (fun Hf its F H v w d d' c Q s r r' h q => by
        split at h
        · cases h
          have e := rp_int r
          have e' := rp_int r'
          subst e e'
          exact .inl ⟨_, _, rfl, q _ _ _ (Same.refl _) (s.add (.int _))⟩
        · cases h) Hf its F H vs _ c Q l s hg q
  · rename_i o
    match vs, l with
    | [v], _ =>
      obtain ⟨Hf', sm, s'⟩ := SX.freeze (its := its) s
      split at hg
      · split at hg
        · rename_i e1 _ _ e2
          split at hg
          · cases hg
          · rename_i hne
            cases hg
            rw [e1] at s'
            obtain ⟨p1, ys, rfl, t1, r1⟩ := s'.rp.sqL
            have ey := rp_ints r1 e2
            subst ey
            rename_i ns _
            have hne' : ns ≠ [] := fun z => hne (by rw [z]; rfl)
            refine .inr (.inl ⟨p1, ns, rfl, s'.sub.sqL t1, by cases ns with | nil => exact absurd rfl hne' | cons _ _ => simp, fun m hm hle => ?_⟩)
            obtain ⟨g1, g2⟩ := minI_spec hne'
            have e : m = minI ns := Int.le_antisymm (hle _ g1) (g2 m hm)
            rw [e]
            exact q _ _ _ sm (s'.drop.add (.int _))
        · cases hg
      · split at hg
        · rename_i e1 _ _ e2
          split at hg
          · cases hg
          · rename_i hne
            cases hg
            rw [e1] at s'
            obtain ⟨p1, ys, rfl, t1, r1⟩ := s'.rp.sqT
            have ey := rp_ints r1 e2
            subst ey
            rename_i ns _
            have hne' : ns ≠ [] := fun z => hne (by rw [z]; rfl)
            refine .inr (.inr ⟨p1, ns, rfl, s'.sub.sqT t1, by cases ns with | nil => exact absurd rfl hne' | cons _ _ => simp, fun m hm hle => ?_⟩)
            obtain ⟨g1, g2⟩ := minI_spec hne'
            have e : m = minI ns := Int.le_antisymm (hle _ g1) (g2 m hm)
            rw [e]
            exact q _ _ _ sm (s'.drop.add (.int _))
        · cases hg
      · cases hg
  · cases hg
theorem b_max (hc : X.calm = true) (hm : X.mg "max" = none) : BIn X "max" "max" (gMax max2 maxI) := ⟨⟨_, (call_max2 hc).or ((cr_max hc).or (cr_maxT hc)), opn_max⟩, hm, by decide +kernel⟩
theorem b_min (hc : X.calm = true) (hm : X.mg "min" = none) : BIn X "min" "min" (gMax min2 minI) := ⟨⟨_, (call_min2 hc).or ((cr_min hc).or (cr_minT hc)), opn_min⟩, hm, by decide +kernel⟩
def dAll (f : List Bool → Bool) : PyData → Option OV
  | .list ds => (boolsOf ds).map fun ns => .sh (.bool (f ns))
  | _ => none
theorem b_all (hc : X.calm = true) (hm : X.mg "all" = none) : BIn X "all" "all" (g1 (dAll fun bs => bs.all id)) := ⟨⟨_, cr_all hc, opN1 fun Hf its F H v d c Q s r h q => by
  unfold dAll at h
  split at h
  · obtain ⟨ns, h1, rfl⟩ := Option.map_eq_some_iff.mp h
    obtain ⟨p1, ys, rfl, t1, r1⟩ := r.sqL
    have ey := rp_bls r1 h1
    subst ey
    exact ⟨p1, ns, rfl, s.sub.sqL t1, q _ _ _ (Same.refl _) (s.add (.bl _))⟩
  · cases h⟩, hm, by decide +kernel⟩
def dInt : PyData → Option OV
  | .int i => some (.sh (.int i))
  | .bool b => some (.sh (.int (if b then 1 else 0)))
  | _ => none
theorem b_int (hm : X.mg "int" = none) : BTy X "int" "int" (g1 dInt) := ⟨⟨_, call_int1, opN1 fun Hf its F H v d c Q s r h q => by
  unfold dInt at h
  split at h
  · cases h
    have e := rp_int r
    subst e
    exact .inl ⟨_, rfl, q _ _ _ (Same.refl _) (s.add (.int _))⟩
  · cases h
    have e := rp_bl r
    subst e
    exact .inr ⟨_, rfl, q _ _ _ (Same.refl _) (s.add (.int _))⟩
  · cases h⟩, hm, by decide +kernel⟩
def dList : PyData → Option OV
  | .list ds => some (.lst (ds.map .sh))
  | .tuple ds => some (.lst (ds.map .sh))
  | _ => none
def dTuple : PyData → Option OV
  | .list ds => some (.sh (.tuple ds))
  | .tuple ds => some (.sh (.tuple ds))
  | _ => none
theorem b_list (hm : X.mg "list" = none) : BTy X "list" "list" (g1 dList) := ⟨⟨_, call_list_of, opN1 fun Hf its F H v d c Q s r h q => by
  unfold dList at h
  split at h
  · cases h
    obtain ⟨p1, ys, rfl, t1, r1⟩ := r.sqL
    exact ⟨p1, ys, rfl, .inl (s.sub.sqL t1), fun l hl => q _ _ _ (Same.refl _) (s.mkLst r1 hl)⟩
  · cases h
    obtain ⟨p1, ys, rfl, t1, r1⟩ := r.sqT
    exact ⟨p1, ys, rfl, .inr (s.sub.sqT t1), fun l hl => q _ _ _ (Same.refl _) (s.mkLst r1 hl)⟩
  · cases h⟩, hm, by decide +kernel⟩
theorem b_tuple (hm : X.mg "tuple" = none) : BTy X "tuple" "tuple" (g1 dTuple) := ⟨⟨_, call_tuple_of, opN1 fun Hf its F H v d c Q s r h q => by
  unfold dTuple at h
  split at h
  · cases h
    obtain ⟨p1, ys, rfl, t1, r1⟩ := r.sqL
    refine ⟨p1, ys, rfl, .inl ⟨s.sub.sqL t1, fun l hl => ?_⟩⟩
    obtain ⟨s3, sm⟩ := s.mkTup r1 hl
    exact q _ _ _ sm s3
  · cases h
    obtain ⟨p1, ys, rfl, t1, r1⟩ := r.sqT
    exact ⟨p1, ys, rfl, .inr ⟨s.sub.sqT t1, q _ _ _ (Same.refl _) (s.add r)⟩⟩
  · cases h⟩, hm, by decide +kernel⟩
def tyN : PyData → String
  | .none => "NoneType" | .bool _ => "bool" | .int _ => "int" | .str _ => "str" | .list _ => "list" | .tuple _ => "tuple" | .dict _ => "dict"
def isiB (T : String) : PyData → Bool
  | .none => false
  | .bool _ => T == "int" || T == "bool"
  | .int _ => T == "int"
  | .str _ => T == "str"
  | .list _ => T == "list"
  | .tuple _ => T == "tuple"
  | .dict _ => T == "dict"
def isDict : PyData → Bool
  | .dict _ => true
  | _ => false
theorem rp_ty {K : PySem.W.Frag} {H : Hg} {v : V} {d : PyData} (r : Rp K H v d) (h : isDict d = false) : TyX K H.h v (.type (tyN d)) := by
  cases r with
  | non => exact .base .non
  | bl b => exact .base (.bl b)
  | int i => exact .base (.int i)
  | str x => exact .base (.str x)
  | lst hr _ =>
    rcases hr with (hr | ⟨o, hr⟩) | ⟨o, its, k, hr, hc, _⟩
    · exact .base (.lst hr)
    · exact .base (.frz hr)
    · exact .kList hr hc
  | tup hr _ => exact .base (.tup hr)
  | tup3 _ hr _ _ => exact .fTuple hr
  | tupK hr _ =>
    rcases hr with (hr | ⟨o, hr⟩) | ⟨o, its, k, hr, hc, _⟩
    · exact .base (.tup hr)
    · exact .fTuple hr
    · exact .kTuple hr hc
  | dk _ _ => cases h
  | dt _ _ => cases h
  | hd _ => cases h
theorem kit_isi {K : PySem.W.Frag} {T : String} (hT : T = "int" ∨ T = "bool" ∨ T = "str" ∨ T = "list" ∨ T = "tuple") (d : PyData) (h : isDict d = false) : PySem.W.kitOne K (.type (tyN d)) (.type T) = some (isiB T d) := by
  cases d with
  | dict _ => cases h
  | _ => rcases hT with rfl | rfl | rfl | rfl | rfl <;> (simp only [tyN, isiB]; exact kit_ty (by decide +kernel))
def gIsi (T : String) (os : List OV) : Option OV := match os with
  | [o] => if isDict (fz o) = true then none else some (.sh (.bool (isiB T (fz o))))
  | _ => none
theorem ev_isi {T : String} {tn : Expr} (hg : Gl X "isinstance") (hm : X.mg "isinstance" = none) (hT : T = "int" ∨ T = "bool" ∨ T = "str" ∨ T = "list" ∨ T = "tuple") (ht : PE X tn (tC (.ty T))) (ha : EvE X W a fa)
    (he : starEach [a, tn] X.env = (false, eval a X.env) :: starEach [tn] X.env := by rfl) (hpl : (backTo pos (starEach [tn] X.env)).any (·.1) = false := by rfl) (he2 : starEach [tn] X.env = (false, eval tn X.env) :: starEach [] X.env := by rfl) : EvE X W (.Call (.Name "isinstance" p) [a, tn] [] pos) (eFn (gIsi T) (lCons fa lNil)) := by
  refine pe_w (pe_callB call_isi hg hm (by decide +kernel) (pa_cons ha (pa_cons ht pa_nil he2) he) (by decide) (by decide) he hpl) fun σ H Q ⟨Hf, T', ρ, F, s, h⟩ => ?_
  unfold eFn lCons at h
  refine ⟨Hf, T', ρ, F, s, ?_⟩
  cases q : fa ρ with
  | exc e ρ1 => rw [q] at h; exact h
  | stk => rw [q] at h; exact h
  | ok o ρ1 =>
    simp only [q, bindEL, lNil, bindLL, bindL, gIsi] at h
    intro v H1 Hf1 sm s1
    by_cases hd : isDict (fz o) = true
    · rw [if_pos hd] at h; exact h.elim
    · rw [if_neg hd] at h
      have hd' : isDict (fz o) = false := by simpa using hd
      have r := s1.rdH
      refine ⟨v, .ty T, _, _, isiB T (fz o), rfl, .ty T, rp_ty r hd', kit_isi hT _ hd', ?_⟩
      exact h _ H1 Hf1 sm (s1.drop.add (.bl _))
end
theorem SI.put' {K : PySem.W.Frag} {Hf : Hg} {H : Hp} {T : Its} {F : Bs} {v : V} {o : OV} {ρ : Rho} {σ : St} (i : Nat) (s : SI K Hf ((v, o) :: T) ρ F σ H) : SI K Hf T (ρ.set i (some o)) F (σ.set i (some v)) H := by
  by_cases hi : i < ρ.length
  · exact s.put hi
  · have h1 : ρ.set i (some o) = ρ := by
      obtain ⟨sl, st⟩ := ρ
      show Rho.mk (sl.set i (some o)) st = _
      rw [List.set_eq_of_length_le (Nat.le_of_not_lt hi)]
    have h2 : σ.set i (some v) = σ := List.set_eq_of_length_le (by have := s.len; have hi : ¬ i < ρ.sl.length := hi; have : σ.length = ρ.sl.length := this; omega)
    rw [h1, h2]
    exact s.drop
section
variable {X : Cx} {W : WX} {e a b c : Expr} {es rest : List Expr} {sts body els : List Stmt} {st : Stmt} {f fa fb fc : Rho → Re} {ta tb : Rho → ReB} {fl : Rho → ReL} {g g1 g2 : Rho → Out} {p pos : Pos} {n m k : Nat} {x : Str}
def sNil (ρ : Rho) : Out := .next ρ
def sCons (g1 g2 : Rho → Out) (ρ : Rho) : Out := match g1 ρ with
  | .next ρ' => g2 ρ'
  | .ret o ρ' => .ret o ρ'
  | .brk ρ' => .brk ρ'
  | .cnt ρ' => .cnt ρ'
  | .exc e ρ' => .exc e ρ'
  | .stk => .stk
theorem eb_nil : EvB X W [] sNil := pss_w pss_nil fun D σ H ⟨Hf, ρ, F, s, h⟩ => h σ H Hf (Same.refl _) s
theorem eb_cons (h1 : EvS X W st g1) (h2 : EvB X W sts g2) : EvB X W (st :: sts) (sCons g1 g2) := pss_w (pss_cons h1 h2) fun D σ H ⟨Hf, ρ, F, s, h⟩ => by
  refine ⟨Hf, ρ, F, s, ?_⟩
  unfold sCons at h
  cases q : g1 ρ with
  | next ρ' => rw [q] at h; exact fun σ' H' Hf' sm s' => ⟨Hf', ρ', F, s', PostS.mono sm h⟩
  | ret o ρ' => rw [q] at h; exact h
  | brk ρ' => rw [q] at h; exact h
  | cnt ρ' => rw [q] at h; exact h
  | exc e ρ' => rw [q] at h; exact h
  | stk => rw [q] at h; exact h
def sRet (f : Rho → Re) (ρ : Rho) : Out := bindS (f ρ) fun o ρ1 => .ret o ρ1
theorem es_ret (he : EvE X W e f) : EvS X W (.Return (some e) pos) (sRet f) := ps_w (ps_ret he) fun D σ H ⟨Hf, ρ, F, s, h⟩ =>
  ⟨Hf, [], ρ, F, s, PostE.bindS h fun o ρ1 v H1 Hf1 sm s1 h1 => h1 v σ H1 Hf1 (Same.refl _) s1⟩
def sExpr (f : Rho → Re) (ρ : Rho) : Out := bindS (f ρ) fun _ ρ1 => .next ρ1
theorem es_expr (he : EvE X W e f) (hs : swapsWith e none pos.line X.env = pure false := by rfl) : EvS X W (.Expr e pos) (sExpr f) := ps_w (ps_expr he hs) fun D σ H ⟨Hf, ρ, F, s, h⟩ =>
  ⟨Hf, [], ρ, F, s, PostE.bindS h fun o ρ1 v H1 Hf1 sm s1 h1 => h1 σ H1 Hf1 (Same.refl _) s1.drop⟩
def sIf (tc : Rho → ReB) (g1 g2 : Rho → Out) (ρ : Rho) : Out := bindBS (tc ρ) fun b ρ1 => if b = true then g1 ρ1 else g2 ρ1
theorem es_if {tc : Rho → ReB} (hc : EvT X W c tc) (h1 : EvB X W body g1) (h2 : EvB X W els g2) : EvS X W (.If c body els pos) (sIf tc g1 g2) := ps_w (ps_if hc h1 h2) fun D σ H ⟨Hf, ρ, F, s, h⟩ =>
  ⟨Hf, [], ρ, F, s, PostB.bindBS h fun b ρ1 H1 Hf1 sm s1 h1 => by
    cases b with
    | true => rw [if_pos rfl]; exact ⟨Hf1, ρ1, F, s1, h1⟩
    | false => rw [if_neg Bool.false_ne_true]; exact ⟨Hf1, ρ1, F, s1, h1⟩⟩
def sSet (i : Nat) (f : Rho → Re) (ρ : Rho) : Out := bindS (f ρ) fun o ρ1 => .next (ρ1.set i (some o))
theorem es_set {i : Nat} {pos' : Pos} (hN : X.N.Nodup) (hi : X.N[i]? = some x) (hx : Loc X.env.scope x) (he : EvE X W e f) (hs : swapsWith e (some (.Name x pos')) pos.line X.env = pure false := by rfl) (hf : X.fn x = true ∨ X.env.scope.names.lookup x = some .local := by first | exact .inl rfl | exact .inr rfl | assumption) :
    EvS X W (.Assign [.Name x pos'] e pos) (sSet i f) := ps_w (ps_set hN hi hx he hs hf) fun D σ H ⟨Hf, ρ, F, s, h⟩ =>
  ⟨Hf, [], ρ, F, s, PostE.bindS h fun o ρ1 v H1 Hf1 sm s1 h1 => h1 _ H1 Hf1 (Same.refl _) (s1.put' i)⟩
theorem wipe_get (σ : St) (j : Nat) : ∀ is : List Nat, (wipe σ is)[j]? = if j ∈ is ∧ j < σ.length then some none else σ[j]?
  | [] => by simp [wipe]
  | i :: is => by
    unfold wipe
    by_cases e : i = j
    · subst e
      by_cases hl : i < σ.length
      · rw [List.getElem?_set_self (by rw [wipe_length]; exact hl), if_pos ⟨List.mem_cons_self, hl⟩]
      · rw [List.getElem?_eq_none (by rw [List.length_set, wipe_length]; omega), if_neg (fun z => hl z.2), List.getElem?_eq_none (by omega)]
    · rw [List.getElem?_set_ne e, wipe_get σ j is]
      have h2 : ¬ j = i := fun q => e q.symm
      simp [List.mem_cons, h2]
theorem wipe_set {σ : St} {i : Nat} {y : Option V} {is : List Nat} (h : i ∈ is) : wipe (σ.set i y) is = wipe σ is := by
  apply List.ext_getElem?
  intro j
  rw [wipe_get, wipe_get, List.length_set]
  by_cases hj : j ∈ is ∧ j < σ.length
  · rw [if_pos hj, if_pos hj]
  · rw [if_neg hj, if_neg hj]
    by_cases e : i = j
    · subst e
      have hl : σ.length ≤ i := Nat.le_of_not_lt fun z => hj ⟨h, z⟩
      rw [List.set_eq_of_length_le hl]
    · rw [List.getElem?_set_ne e]
def tG (X : Cx) (is : List Nat) (h : OV → Rho → Option Rho) : TG := fun v σ H Q => ∃ Hf T ρ F o, SI X.K Hf ((v, o) :: T) ρ F σ H ∧ (match h o ρ with
  | some ρ' => ∀ σ' H' Hf', wipe σ' is = wipe σ is → Same Hf Hf' → SI X.K Hf' T ρ' F σ' H' → Q σ' H'
  | none => False)
def EvG (X : Cx) (is : List Nat) (tg : Expr) (h : OV → Rho → Option Rho) : Prop := PG X tg (tG X is h)
theorem pg_w {X : Cx} {tg : Expr} {t t' : TG} (h : PG X tg t) (hw : ∀ v σ H Q, t' v σ H Q → t v σ H Q) : PG X tg t' := ⟨fun pins s σ H v u Q I r h' => h.run pins s σ H v u Q I r (hw v σ H Q h')⟩
theorem pg_or {X : Cx} {tg : Expr} {t t' : TG} (h : PG X tg t) (h' : PG X tg t') : PG X tg (fun v σ H Q => t v σ H Q ∨ t' v σ H Q) := ⟨fun pins s σ H v u Q I r q => q.elim (h.run pins s σ H v u Q I r) (h'.run pins s σ H v u Q I r)⟩
def hName (i : Nat) (o : OV) (ρ : Rho) : Option Rho := some (ρ.set i (some o))
theorem eg_name {is : List Nat} {i : Nat} (hN : X.N.Nodup) (hi : X.N[i]? = some x) (hx : Loc X.env.scope x) (hf : X.fn x = true ∨ X.env.scope.names.lookup x = some .local := by first | exact .inl rfl | exact .inr rfl | assumption) (him : i ∈ is := by decide) : EvG X is (.Name x pos) (hName i) :=
  pg_w (pg_name hN hi hx hf) fun v σ H Q ⟨Hf, T, ρ, F, o, s, h⟩ => h _ H Hf (wipe_set him) (Same.refl _) (s.put' i)
def tGs (X : Cx) (is : List Nat) (hs : List PyData → Rho → Option Rho) : TGs := fun vs σ H Q => ∃ Hf T ρ F ds, RpAll X.K Hf vs ds ∧ SI X.K Hf T ρ F σ H ∧ (match hs ds ρ with
  | some ρ' => ∀ σ' H' Hf', wipe σ' is = wipe σ is → Same Hf Hf' → SI X.K Hf' T ρ' F σ' H' → Q σ' H'
  | none => False)
def EvGs (X : Cx) (is : List Nat) (tgs : List Expr) (h : List PyData → Rho → Option Rho) : Prop := PGs X tgs (tGs X is h)
theorem pgs_w {X : Cx} {tg : List Expr} {t t' : TGs} (h : PGs X tg t) (hw : ∀ v σ H Q, t' v σ H Q → t v σ H Q) : PGs X tg t' := ⟨fun pins s σ H v u Q I r h' => h.run pins s σ H v u Q I r (hw v σ H Q h')⟩
def hNil (ds : List PyData) (ρ : Rho) : Option Rho := match ds with
  | [] => some ρ
  | _ => none
def hCons (h : OV → Rho → Option Rho) (hs : List PyData → Rho → Option Rho) (ds : List PyData) (ρ : Rho) : Option Rho := match ds with
  | [] => none
  | d :: r => match h (.sh d) ρ with
    | some ρ1 => hs r ρ1
    | none => none
theorem egs_nil {is : List Nat} : EvGs X is [] hNil := pgs_w pgs_nil fun vs σ H Q ⟨Hf, T, ρ, F, ds, r, s, h⟩ => by
  cases r with
  | nil => exact ⟨rfl, h σ H Hf rfl (Same.refl _) s⟩
  | cons _ _ => exact h.elim
theorem egs_cons {is : List Nat} {tgs : List Expr} {h1 : OV → Rho → Option Rho} {h2 : List PyData → Rho → Option Rho} (q1 : EvG X is e h1) (q2 : EvGs X is tgs h2) (hs : (assignEach (e :: tgs) X.env).map (·.2) = assign e X.env :: (assignEach tgs X.env).map (·.2) := by rfl) : EvGs X is (e :: tgs) (hCons h1 h2) := pgs_w (pgs_cons q1 q2 hs) fun vs σ H Q ⟨Hf, T, ρ, F, ds, r, s, h⟩ => by
  cases r with
  | nil => exact h.elim
  | @cons v vs d ds r1 r2 =>
    refine ⟨v, vs, rfl, Hf, T, ρ, F, .sh d, s.add r1, ?_⟩
    unfold hCons at h
    simp only at h
    cases q : h1 (.sh d) ρ with
    | none => rw [q] at h; exact h
    | some ρ1 =>
      rw [q] at h
      refine fun σ' H' Hf' ew sm s' => ⟨Hf', T, ρ1, F, ds, r2.mono (.of sm), s', ?_⟩
      simp only at h
      cases q2 : h2 ds ρ1 with
      | none => rw [q2] at h; exact h
      | some ρ2 => rw [q2] at h; exact fun σ2 H2 Hf2 ew2 sm2 => h σ2 H2 Hf2 (ew2.trans ew) (sm.trans sm2)
def hTup (n : Nat) (hs : List PyData → Rho → Option Rho) (o : OV) (ρ : Rho) : Option Rho := match fz o with
  | .tuple ds => if ds.length = n then hs ds ρ else none
  | .list ds => if ds.length = n then hs ds ρ else none
  | _ => none
theorem eg_tup {is : List Nat} {tgs : List Expr} {h : List PyData → Rho → Option Rho} {k : Nat} (G : Good X W m) (hq : EvGs X is tgs h)
    (hn : (assignEach tgs X.env).length = n := by rfl) (hst : (assignEach tgs X.env).findIdx? (·.1) = none := by rfl) : EvG X is (.Tuple tgs k pos) (hTup n h) :=
  pg_w (pg_or (pg_tup G.calm hq hn hst) (pg_lst G.calm hq hn hst)) fun v σ H Q ⟨Hf, T, ρ, F, o, s, hh⟩ => by
    obtain ⟨Hf', sm, s'⟩ := s.freeze
    unfold hTup at hh
    cases hd : fz o with
    | tuple ds =>
      rw [hd] at s'
      simp only [hd] at hh
      by_cases hl : ds.length = n
      · rw [if_pos hl] at hh
        obtain ⟨a, xs, rfl, t1, r1⟩ := s'.rp.sqT
        refine .inl ⟨a, xs, rfl, s'.sub.sqT t1, by rw [r1.len, hl], Hf', T, ρ, F, ds, r1, s'.drop, ?_⟩
        cases q : h ds ρ with
        | none => rw [q] at hh; exact hh
        | some ρ' => rw [q] at hh; exact fun σ2 H2 Hf2 ew sm2 => hh σ2 H2 Hf2 ew (sm.trans sm2)
      · rw [if_neg hl] at hh; exact hh.elim
    | list ds =>
      rw [hd] at s'
      simp only [hd] at hh
      by_cases hl : ds.length = n
      · rw [if_pos hl] at hh
        obtain ⟨a, xs, rfl, t1, r1⟩ := s'.rp.sqL
        refine .inr ⟨a, xs, rfl, s'.sub.sqL t1, by rw [r1.len, hl], Hf', T, ρ, F, ds, r1, s'.drop, ?_⟩
        cases q : h ds ρ with
        | none => rw [q] at hh; exact hh
        | some ρ' => rw [q] at hh; exact fun σ2 H2 Hf2 ew sm2 => hh σ2 H2 Hf2 ew (sm.trans sm2)
      · rw [if_neg hl] at hh; exact hh.elim
    | _ => simp only [hd] at hh
def ofH (r : Option Rho) : Out := match r with
  | some ρ => .next ρ
  | none => .stk
def sAsg (h : OV → Rho → Option Rho) (f : Rho → Re) (ρ : Rho) : Out := bindS (f ρ) fun o ρ1 => ofH (h o ρ1)
theorem es_asg {is : List Nat} {tg : Expr} {h : OV → Rho → Option Rho} (he : EvE X W e f) (hg : EvG X is tg h) (hs : swapsWithSole [tg] e pos.line X.env = pure false := by rfl) (hw : swappedStores [tg] e X.env = pure none := by rfl)
    (h1 : (assignEach [tg] X.env).map (·.2) = [assign tg X.env] := by rfl) : EvS X W (.Assign [tg] e pos) (sAsg h f) := ps_w (ps_asg he hg hs hw h1) fun D σ H ⟨Hf, ρ, F, s, hh⟩ =>
  ⟨Hf, [], ρ, F, s, PostE.bindS hh fun o ρ1 v H1 Hf1 sm s1 h1 => by
    refine ⟨Hf1, [], ρ1, F, o, s1, ?_⟩
    cases q : h o ρ1 with
    | none => rw [q] at h1; exact h1
    | some ρ2 => rw [q] at h1; exact fun σ' H' Hf' ew sm' s' => h1 σ' H' Hf' sm' s'⟩
def sPar (i j : Nat) (fl : Rho → ReL) (ρ : Rho) : Out := match fl ρ with
  | .ok [o, o'] ρ1 => .next ((ρ1.set i (some o)).set j (some o'))
  | .exc e ρ1 => .exc e ρ1
  | _ => .stk
theorem es_par {i j : Nat} {y : Str} {px py pt : Pos} {kt k2 pt2} (G : Good X W m) (hN : X.N.Nodup) (hi : X.N[i]? = some x) (hj : X.N[j]? = some y) (hij : i ≠ j)
    (hx : X.env.scope.names.lookup x = some .local) (hy : X.env.scope.names.lookup y = some .local) (ha : EvL X W [a, b] fl)
    (hw : swappedStores [.Tuple [.Name x px, .Name y py] kt pt] (.Tuple [a, b] k2 pt2) X.env = pure (some [x, y]) := by rfl)
    (hs : swapsWithSole [.Tuple [.Name x px, .Name y py] kt pt] (.Tuple [a, b] k2 pt2) pos.line X.env = pure false := by rfl) :
    EvS X W (.Assign [.Tuple [.Name x px, .Name y py] kt pt] (.Tuple [a, b] k2 pt2) pos) (sPar i j fl) := ps_w (ps_par G.calm hN hi hj hij hx hy ha hw hs) fun D σ H ⟨Hf, ρ, F, s, h⟩ => by
  refine ⟨Hf, [], ρ, F, s, ?_⟩
  unfold sPar at h
  cases q : fl ρ with
  | exc e ρ1 => rw [q] at h; exact fun H' Hf' cls d sm s' => h σ H' Hf' cls d sm s'
  | stk => rw [q] at h; exact h
  | ok os ρ1 =>
    rw [q] at h
    match os, h with
    | [o, o'], h =>
      intro vs H1 Hf1 l sm s1
      match vs, l with
      | [v, w], _ =>
        refine ⟨v, w, rfl, h _ H1 Hf1 sm ?_⟩
        exact SI.put' j (SI.put' i s1)
    | [], h => exact h.elim
    | [_], h => exact h.elim
    | _ :: _ :: _ :: _, h => exact h.elim
structure WalkD (K : PySem.W.Frag) (Hf : Hg) (J : It) (ds : List PyData) : Prop where
  goes : ∀ i H, i < ds.length → Ext Hf (Hf.on H) → J.go i H
  stops : ∀ H, Ext Hf (Hf.on H) → J.stop ds.length H
  yields : ∀ i H y H', i < ds.length → Ext Hf (Hf.on H) → J.yld i H y H' → ∃ d, ds[i]? = some d ∧ ((H' = H ∧ Rp K Hf y d) ∨ (∃ T xs es, y = .ref T ∧ H T = none ∧ H' = upd H T (.tup xs) ∧ RpAll K Hf xs es ∧ d = .tuple es) ∨ ∃ q xs es, y = .ref q ∧ H' = H ∧ H q = some (.tup xs) ∧ RpAll K Hf xs es ∧ d = .tuple es)
inductive ReI where
  | ok (ds : List PyData) (ρ : Rho) | exc (e : Exn) (ρ : Rho) | stk
def tI (X : Cx) (W : WX) (f : Rho → ReI) : TI := fun σ H R => ∃ Hf T ρ F, SI X.K Hf T ρ F σ H ∧ (match f ρ with
  | .ok ds ρ' => ∀ J H' Hf', Same Hf Hf' → SI X.K Hf' T ρ' F σ H' → WalkD X.K Hf' J ds → R J H'
  | .exc e ρ' => ∀ H' Hf' cls d, Same Hf Hf' → SI X.K Hf' [] ρ' F σ H' → ExnIs X.mg X.K Hf' H' e cls d → W cls d σ H'
  | .stk => False)
def EvI (X : Cx) (W : WX) (tg iter : Expr) (f : Rho → ReI) : Prop := PI X tg iter (tI X W f)
theorem pi_w {X : Cx} {tg it : Expr} {t t' : TI} (h : PI X tg it t) (hw : ∀ σ H R, t' σ H R → t σ H R) : PI X tg it t' := ⟨fun pins s σ H R I h' => h.run pins s σ H R I (hw σ H R h')⟩
theorem pi_or {X : Cx} {tg it : Expr} {t t' : TI} (h : PI X tg it t) (h' : PI X tg it t') : PI X tg it (fun σ H R => t σ H R ∨ t' σ H R) := ⟨fun pins s σ H R I q => q.elim (h.run pins s σ H R I) (h'.run pins s σ H R I)⟩
def itemsOfL : PyData → Option (List PyData)
  | .list ds => some ds
  | .tuple ds => some ds
  | _ => none
def itemsOf : PyData → Option (List PyData)
  | .list ds => some ds
  | .tuple ds => some ds
  | .str z => some (z.cps.toList.map fun c => .str ⟨#[c]⟩)
  | _ => none
def iVal (f : Rho → Re) (ρ : Rho) : ReI := match f ρ with
  | .ok o ρ1 => match itemsOf (fz o) with
    | some ds => .ok ds ρ1
    | none => .stk
  | .exc e ρ1 => .exc e ρ1
  | .stk => .stk
theorem walkD_list {K : PySem.W.Frag} {Hf : Hg} {a : Addr} {xs : List V} {ds : List PyData} (h : SqL K Hf.h a xs) (r : RpAll K Hf xs ds) : WalkD K Hf (Itl K a) ds := by
  have w := @walk_list K a xs
  refine ⟨fun i H hi e => w.goes i H (by rw [r.len]; exact hi) (e.sqL h), fun H e => by rw [← r.len]; exact w.stops H (e.sqL h), fun i H y H' hi e q => ?_⟩
  obtain ⟨e1, e2⟩ := w.yields i H y H' (by rw [r.len]; exact hi) (e.sqL h) q
  obtain ⟨d, hd, rd⟩ := r.get' e2
  exact ⟨d, hd, .inl ⟨e1, rd⟩⟩
theorem walkD_tup {K : PySem.W.Frag} {Hf : Hg} {a : Addr} {xs : List V} {ds : List PyData} (h : SqT K Hf.h a xs) (r : RpAll K Hf xs ds) : WalkD K Hf (Itt K a) ds := by
  have w := @walk_tup K a xs
  refine ⟨fun i H hi e => w.goes i H (by rw [r.len]; exact hi) (e.sqT h), fun H e => by rw [← r.len]; exact w.stops H (e.sqT h), fun i H y H' hi e q => ?_⟩
  obtain ⟨e1, e2⟩ := w.yields i H y H' (by rw [r.len]; exact hi) (e.sqT h) q
  obtain ⟨d, hd, rd⟩ := r.get' e2
  exact ⟨d, hd, .inl ⟨e1, rd⟩⟩
theorem walkD_str {K : PySem.W.Frag} {Hf : Hg} {z : Str} : WalkD K Hf (L2.Its z) (z.cps.toList.map fun c => .str ⟨#[c]⟩) := by
  have w := @walk_str z
  have hl : (z.cps.toList.map fun c => PyData.str ⟨#[c]⟩).length = z.cps.size := by rw [List.length_map, Array.length_toList]
  refine ⟨fun i H hi _ => w.goes i H (by rw [← hl]; exact hi) trivial, fun H _ => by rw [hl]; exact w.stops H trivial, fun i H y H' hi _ q => ?_⟩
  obtain ⟨e1, c, e2, e3⟩ := w.yields i H y H' (by rw [← hl]; exact hi) trivial q
  refine ⟨.str ⟨#[c]⟩, ?_, .inl ⟨e1, by rw [e3]; exact .str _⟩⟩
  rw [List.getElem?_map, Array.getElem?_toList, e2]
  rfl
theorem ei_val {tg : Expr} (h : EvE X W e f) : EvI X W tg e (iVal f) := pi_w (pi_or (pi_list h) (pi_or (pi_tup h) (pi_str h))) fun σ H R ⟨Hf, T, ρ, F, s, h⟩ => by
  unfold iVal at h
  cases q : f ρ with
  | exc e ρ1 => rw [q] at h; exact .inl ⟨Hf, T, ρ, F, s, by rw [q]; exact h⟩
  | stk => rw [q] at h; exact h.elim
  | ok o ρ1 =>
    simp only [q] at h
    cases q2 : fz o with
    | list ds =>
      simp only [q2, itemsOf] at h
      refine .inl ⟨Hf, T, ρ, F, s, ?_⟩
      rw [q]
      intro v H1 Hf1 sm s1
      obtain ⟨Hf2, sm2, s2⟩ := s1.freeze
      rw [q2] at s2
      obtain ⟨a, xs, rfl, t1, r1⟩ := s2.rp.sqL
      exact ⟨a, rfl, ⟨xs, s2.sub.sqL t1⟩, h _ H1 Hf2 (sm.trans sm2) s2.drop (walkD_list t1 r1)⟩
    | tuple ds =>
      simp only [q2, itemsOf] at h
      refine .inr (.inl ⟨Hf, T, ρ, F, s, ?_⟩)
      rw [q]
      intro v H1 Hf1 sm s1
      obtain ⟨Hf2, sm2, s2⟩ := s1.freeze
      rw [q2] at s2
      obtain ⟨a, xs, rfl, t1, r1⟩ := s2.rp.sqT
      exact ⟨a, rfl, ⟨xs, s2.sub.sqT t1⟩, h _ H1 Hf2 (sm.trans sm2) s2.drop (walkD_tup t1 r1)⟩
    | str z =>
      simp only [q2, itemsOf] at h
      refine .inr (.inr ⟨Hf, T, ρ, F, s, ?_⟩)
      rw [q]
      intro v H1 Hf1 sm s1
      obtain ⟨Hf2, sm2, s2⟩ := s1.freeze
      rw [q2] at s2
      have e := rp_str s2.rp
      subst e
      exact ⟨z, rfl, h _ H1 Hf2 (sm.trans sm2) s2.drop walkD_str⟩
    | _ => simp only [q2, itemsOf] at h
def upto (lo : Int) (n : Nat) : List PyData := (List.range n).map fun i => .int (lo + (i : Nat))
theorem walkD_range {K : PySem.W.Frag} {Hf : Hg} {lo : Int} {n : Nat} : WalkD K Hf (Itr lo n) (upto lo n) := by
  have hl : (upto lo n).length = n := by simp [upto]
  refine ⟨fun i H hi _ => by rw [hl] at hi; exact hi, fun H _ => by rw [hl]; exact Nat.le_refl _, fun i H y H' hi _ q => ?_⟩
  obtain ⟨e1, e2⟩ := q
  rw [hl] at hi
  refine ⟨.int (lo + (i : Nat)), by simp [upto, hi], .inl ⟨e1, ?_⟩⟩
  rw [e2]
  exact .int _
def rngOk (i : Int) : Bool := decide (-(2 ^ 62) ≤ i ∧ i < 2 ^ 62)
def iRange1 (f : Rho → Re) (ρ : Rho) : ReI := match f ρ with
  | .ok (.sh (.int j)) ρ1 => if rngOk j = true then .ok (upto 0 j.toNat) ρ1 else .stk
  | .exc e ρ1 => .exc e ρ1
  | _ => .stk
theorem ei_range1 {tg : Expr} (hg : Gl X "range") (hm : X.mg "range" = none) (h : EvE X W a f) (hs : starEach [a] X.env = [(false, eval a X.env)] := by rfl) : EvI X W tg (.Call (.Name "range" p) [a] [] pos) (iRange1 f) :=
  pi_w (pi_range1 hg hm (pa_cons h pa_nil (by rw [hs]; rfl)) hs) fun σ H R ⟨Hf, T, ρ, F, s, h⟩ => by
    refine ⟨Hf, T, ρ, F, s, ?_⟩
    unfold iRange1 at h
    cases q : f ρ with
    | exc e ρ1 => rw [q] at h; exact h
    | stk => rw [q] at h; exact h
    | ok o ρ1 =>
      rw [q] at h
      intro v H1 Hf1 sm s1
      cases o with
      | sh d =>
        cases d with
        | int j =>
          simp only at h
          by_cases hr : rngOk j = true
          · rw [if_pos hr] at h
            have e := rp_int s1.rp
            subst e
            have hr' := of_decide_eq_true hr
            exact ⟨j, rfl, hr'.1, hr'.2, h _ H1 Hf1 sm s1.drop walkD_range⟩
          · rw [if_neg hr] at h; exact h.elim
        | _ => exact h.elim
      | _ => exact h.elim
def fgt : List Nat → Rho → Rho
  | [], ρ => ρ
  | i :: is, ρ => fgt is (ρ.set i none)
theorem SI.fgt {K : PySem.W.Frag} {Hf : Hg} {H : Hp} {T : Its} {F : Bs} {σ : St} : ∀ (is : List Nat) {ρ : Rho}, SI K Hf T ρ F σ H → SI K Hf T (fgt is ρ) F σ H
  | [], _, s => s
  | i :: is, _, s => SI.fgt is (s.forget i)
def forL (fs : List Nat) (h : OV → Rho → Option Rho) (body : Rho → Out) : List PyData → Rho → Out
  | [], ρ => .next ρ
  | d :: ds, ρ => match h (.sh d) ρ with
    | none => .stk
    | some ρ1 => match body ρ1 with
      | .next ρ2 => forL fs h body ds (fgt fs ρ2)
      | .cnt ρ2 => forL fs h body ds (fgt fs ρ2)
      | .brk ρ2 => .next (fgt fs ρ2)
      | .ret o ρ2 => .ret o ρ2
      | .exc e ρ2 => .exc e ρ2
      | .stk => .stk
def sFor (fs : List Nat) (fi : Rho → ReI) (h : OV → Rho → Option Rho) (body : Rho → Out) (ρ : Rho) : Out := match fi ρ with
  | .ok ds ρ1 => forL fs h body ds (fgt fs ρ1)
  | .exc e ρ1 => .exc e ρ1
  | .stk => .stk
theorem es_for {is : List Nat} {tg iter : Expr} {fi : Rho → ReI} {h : OV → Rho → Option Rho} {gb : Rho → Out} (fs : List Nat) (G : Good X W m) (hi : EvI X W tg iter fi) (hg : EvG X is tg h) (hb : EvB X W body gb)
    (hs : ∀ x, foldedSetIterable iter X.env x = pure x := by intro _; rfl) : EvS X W (.For tg iter body [] pos) (sFor fs fi h gb) := ps_w (ps_for G.po G.calm hi hg hb hs) fun D σ H ⟨Hf, ρ, F, s, hh⟩ => by
  refine ⟨Hf, [], ρ, F, s, ?_⟩
  unfold sFor at hh
  cases q : fi ρ with
  | exc e ρ1 => rw [q] at hh; exact fun H' Hf' cls d sm s' => hh σ H' Hf' cls d sm s'
  | stk => rw [q] at hh; exact hh
  | ok ds ρ1 =>
    rw [q] at hh
    intro J H1 Hf1 sm1 s1 wd
    refine ⟨fun i m σ H => m = ds.length - i ∧ i ≤ ds.length ∧ ∃ Hf2 ρ2, Same Hf1 Hf2 ∧ SI X.K Hf2 [] ρ2 F σ H ∧ PostS X W Hf2 F (forL fs h gb (ds.drop i) ρ2) D,
      ⟨ds.length, rfl, Nat.zero_le _, Hf1, fgt fs ρ1, Same.refl _, s1.fgt fs, PostS.mono sm1 hh⟩, ?_⟩
    rintro i m σ2 H2 ⟨rfl, hi, Hf2, ρ2, sm2, s2, h2⟩
    have ext : Ext Hf1 (Hf1.on H2) := (Same.ext sm2 s2.sub).on
    by_cases hlt : i < ds.length
    · have hdrop : ds.drop i = ds[i] :: ds.drop (i + 1) := List.drop_eq_getElem_cons hlt
      rw [hdrop] at h2
      refine .inr ⟨wd.goes i H2 hlt ext, fun σ' H' => ∃ Hf3 ρ3, Same Hf1 Hf3 ∧ SI X.K Hf3 [] ρ3 F σ' H' ∧ PostS X W Hf3 F (forL fs h gb (ds.drop (i + 1)) ρ3) D, fun σ' H' ⟨Hf3, ρ3, a1, a2, a3⟩ => ⟨ds.length - (i + 1), by omega, rfl, hlt, Hf3, ρ3, a1, a2, a3⟩, fun y H' hy => ?_⟩
      obtain ⟨d, hd, hy⟩ := wd.yields i H2 y H' hlt ext hy
      have ed : d = ds[i] := by
        rw [List.getElem?_eq_getElem hlt] at hd
        exact (Option.some.inj hd).symm
      subst ed
      have base : ∃ Hf3, Same Hf2 Hf3 ∧ SI X.K Hf3 [(y, .sh ds[i])] ρ2 F σ2 H' := by
        rcases hy with ⟨rfl, r⟩ | ⟨T, xs, es, rfl, hT, rfl, r, e⟩ | ⟨q, xs, es, rfl, rfl, hq, r, e⟩
        · exact ⟨Hf2, Same.refl _, s2.add (r.mono (.of sm2))⟩
        · obtain ⟨its, F2, s3, bk⟩ := s2.ex2
          obtain ⟨s4, sm4⟩ := s3.mkTup (r.mono (.of sm2)) hT
          rw [e]
          exact ⟨_, sm4, bk [_] _ _ sm4 s4⟩
        · obtain ⟨its, F2, s3, bk⟩ := s2.ex2
          obtain ⟨Hf4, sm4, s4⟩ := s3.learn hq (r.mono (.of sm2))
          rw [e]
          exact ⟨_, sm4, bk [_] _ _ sm4 s4⟩
      obtain ⟨Hf3, sm3, s3⟩ := base
      refine ⟨Hf3, [], ρ2, F, .sh ds[i], s3, ?_⟩
      unfold forL at h2
      cases q2 : h (.sh ds[i]) ρ2 with
      | none => rw [q2] at h2; exact h2
      | some ρ3 =>
        simp only [q2] at h2
        refine fun σ4 H4 Hf4 ew sm4 s4 => ⟨Hf4, ρ3, F, s4, ?_⟩
        have h4 := PostS.mono (sm3.trans sm4) h2
        cases q3 : gb ρ3 with
        | next ρ4 =>
          simp only [q3] at h4
          exact fun σ5 H5 Hf5 sm5 s5 => ⟨Hf5, _, (sm2.trans (sm3.trans sm4)).trans sm5, s5.fgt fs, PostS.mono sm5 h4⟩
        | cnt ρ4 =>
          simp only [q3] at h4
          exact fun σ5 H5 Hf5 sm5 s5 => ⟨Hf5, _, (sm2.trans (sm3.trans sm4)).trans sm5, s5.fgt fs, PostS.mono sm5 h4⟩
        | brk ρ4 =>
          simp only [q3] at h4
          exact fun σ5 H5 Hf5 sm5 s5 => h4 σ5 H5 Hf5 sm5 (s5.fgt fs)
        | ret o ρ4 => simp only [q3] at h4; exact h4
        | exc e ρ4 => simp only [q3] at h4; exact h4
        | stk => simp only [q3] at h4; exact h4
    · have e : i = ds.length := by omega
      subst e
      refine .inl ⟨wd.stops H2 ext, ?_⟩
      rw [List.drop_length] at h2
      exact h2 σ2 H2 Hf2 (Same.refl _) s2
end
theorem Slots.congr : ∀ {σ σ' : St} {ρ : Sl} {its : Its}, Slots σ ρ its → σ'.length = σ.length → (∀ (i : Nat) (o : OV), ρ[i]? = some (some o) → σ'[i]? = σ[i]?) → Slots σ' ρ its
  | [], [], _, _, .nil, _, _ => .nil
  | _ :: σ, y :: σ', _, _, .no r, l, h => .no (r.congr (by simpa using l) fun i o q => by simpa using h (i + 1) o (by simpa using q))
  | _ :: σ, y :: σ', _, _, .yes r, l, h => by
    have h0 := h 0 _ rfl
    simp at h0
    subst h0
    exact .yes (r.congr (by simpa using l) fun i o q => by simpa using h (i + 1) o (by simpa using q))
theorem fgt_get : ∀ (is : List Nat) {ρ : Rho} {j : Nat} {o : OV}, (fgt is ρ).sl[j]? = some (some o) → j ∉ is
  | [], _, _, _, _ => by simp
  | i :: is, ρ, j, o, h => by
    have h1 := fgt_get is (ρ := ρ.set i none) h
    intro hm
    rcases List.mem_cons.mp hm with e | hm
    · subst e
      have : ∀ (is : List Nat) (ρ : Rho), (fgt is ρ).sl[j]? = some (some o) → ρ.sl[j]? = some (some o) := by
        intro is
        induction is with
        | nil => intro ρ h; exact h
        | cons k is ih =>
          intro ρ h
          have := ih (ρ.set k none) h
          by_cases e : k = j
          · subst e
            have this : (ρ.sl.set k none)[k]? = some (some o) := this
            by_cases hl : k < ρ.sl.length
            · rw [List.getElem?_set_self hl] at this; cases this
            · rw [List.getElem?_eq_none (by simpa using hl)] at this; cases this
          · have this : (ρ.sl.set k none)[j]? = some (some o) := this
            rw [List.getElem?_set_ne e] at this; exact this
      have h2 := this is (ρ.set j none) h
      have h2 : (ρ.sl.set j none)[j]? = some (some o) := h2
      by_cases hl : j < ρ.sl.length
      · rw [List.getElem?_set_self hl] at h2; cases h2
      · rw [List.getElem?_eq_none (by simpa using hl)] at h2; cases h2
    · exact h1 hm
section
variable {K : PySem.W.Frag} {Hf : Hg} {H : Hp} {T : Its} {F : Bs} {σ σ' : St} {ρ : Rho} {is : List Nat} {i : Nat} {d : PyData}
theorem SI.rewipe (s : SI K Hf T (Ev.fgt is ρ) F σ H) (e : wipe σ' is = wipe σ is) : SI K Hf T (Ev.fgt is ρ) F σ' H := by
  obtain ⟨its, sb, h, ht, s⟩ := s.ex
  have hl : σ'.length = σ.length := by rw [← wipe_length σ' is, e, wipe_length]
  refine ⟨its, sb, h.congr hl fun j o q => ?_, ht, s⟩
  have hj := fgt_get is q
  have := congrArg (·[j]?) e
  simp only [wipe_get] at this
  rw [if_neg (fun z => hj z.1), if_neg (fun z => hj z.1)] at this
  exact this
theorem wipe_wipe (σ : St) (is : List Nat) : wipe (wipe σ is) is = wipe σ is := by
  apply List.ext_getElem?
  intro j
  rw [wipe_get, wipe_length, wipe_get]
  by_cases hj : j ∈ is ∧ j < σ.length
  · rw [if_pos hj, if_pos hj]
  · rw [if_neg hj, if_neg hj]
theorem SI.look (s : SI K Hf T ρ F σ H) (h : ρ.sl[i]? = some (some (.sh d))) : ∃ v, σ[i]? = some (some v) ∧ Rp K Hf v d := by
  obtain ⟨v, h1, s1, _⟩ := s.take h
  exact ⟨v, h1, s1.rp⟩
theorem SI.lay {v : V} (s : SI K Hf T ρ F σ H) (h : σ[i]? = some (some v)) (r : Rp K Hf v d) : SI K Hf T (ρ.set i (some (.sh d))) F σ H := by
  have := SI.put' i (s.add r)
  have e : σ.set i (some v) = σ := by
    apply List.ext_getElem?
    intro j
    by_cases e : i = j
    · subst e
      by_cases hl : i < σ.length
      · rw [List.getElem?_set_self hl, h]
      · rw [List.set_eq_of_length_le (by omega)]
    · rw [List.getElem?_set_ne e]
  rw [e] at this
  exact this
end
def relay : List Nat → Rho → Rho → Rho
  | [], _, ρ => ρ
  | i :: is, ρ0, ρ => match ρ0.sl[i]? with
    | some (some (.sh d)) => relay is ρ0 (ρ.set i (some (.sh d)))
    | _ => relay is ρ0 ρ
theorem SI.relay {K : PySem.W.Frag} {Hf0 Hf : Hg} {H0 H : Hp} {T0 T : Its} {F0 F : Bs} {σ : St} {ρ0 : Rho} (s0 : SI K Hf0 T0 ρ0 F0 σ H0) (sm : Same Hf0 Hf) : ∀ (is : List Nat) {ρ : Rho}, SI K Hf T ρ F σ H → SI K Hf T (relay is ρ0 ρ) F σ H
  | [], _, s => s
  | i :: is, ρ, s => by
    unfold Ev.relay
    split
    · rename_i d q
      obtain ⟨v, h1, r⟩ := s0.look q
      exact SI.relay s0 sm is (s.lay h1 (r.mono (.of sm)))
    · exact SI.relay s0 sm is s
def tYesR (ρ : Rho) : ReB := .ok true ρ
def compL (vs : List Nat) (h : OV → Rho → Option Rho) (tt : Rho → ReB) (te : Rho → Re) : List PyData → Nat → Rho → ReL
  | [], _, ρ => .ok [] ρ
  | d :: ds, k, ρ => match h (.sh d) ρ with
    | none => .stk
    | some ρ1 => match tt ρ1 with
      | .ok true ρ2 => match te ρ2 with
        | .ok o ρ3 => if k < sizeLine then (match compL vs h tt te ds (k + 1) (fgt vs ρ3) with
          | .ok os ρ4 => .ok (o :: os) ρ4
          | _ => .stk) else .stk
        | _ => .stk
      | .ok false ρ2 => compL vs h tt te ds k (fgt vs ρ2)
      | _ => .stk
def eLc (vs : List Nat) (fi : Rho → ReI) (h : OV → Rho → Option Rho) (tt : Rho → ReB) (te : Rho → Re) (ρ : Rho) : Re := match fi ρ with
  | .ok ds ρ1 => match compL vs h tt te ds 0 (fgt vs ρ1) with
    | .ok os ρ2 => .ok (.lst os) (relay vs ρ1 ρ2)
    | _ => .stk
  | .exc e ρ1 => .exc e ρ1
  | .stk => .stk
section
variable {X : Cx} {W : WX} {elt tg iter c : Expr} {ifs : List Expr} {scope : Scope} {own : List (Str × Nat)} {pos : Pos} {fi : Rho → ReI} {h : OV → Rho → Option Rho} {tt : Rho → ReB} {te : Rho → Re} {m : Nat}
def EvTs (X : Cx) (W : WX) (ifs : List Expr) (f : Rho → ReB) : Prop := PTs X ifs (tT X W f)
theorem pts_w {X : Cx} {e : List Expr} {t t' : TT} (h : PTs X e t) (hw : ∀ σ H Q, t' σ H Q → t σ H Q) : PTs X e t' := ⟨fun pins s σ H Q I h' => h.run pins s σ H Q I (hw σ H Q h')⟩
theorem ets_nil : EvTs X W [] tYesR := pts_w pts_nil fun σ H Q ⟨Hf, T, ρ, F, s, h⟩ => h H Hf (Same.refl _) s
theorem lc_post (vs : List Nat) {σ : St} {H : Hp} {Q : VK} {Hf : Hg} {T : Its} {ρ : Rho} {F : Bs} (s : SI X.K Hf T ρ F σ H) (hh : PostE X W Hf T F σ (eLc vs fi h tt te ρ) Q) :
    tLc (tI X W fi) (tG X vs h) (tT X W0 tt) (tE X W0 te) vs σ H Q := by
  refine ⟨Hf, T, ρ, F, s, ?_⟩
  unfold eLc at hh
  cases q : fi ρ with
  | exc e ρ1 => rw [q] at hh; exact hh
  | stk => rw [q] at hh; exact hh
  | ok ds ρ1 =>
    rw [q] at hh
    simp only at hh
    intro J H1 Hf1 sm1 s1 wd D hD
    -- what is to come, from the i-th item on
    let Rest : Nat → List OV → Rho → Prop := fun i acc ρi => ∃ os ρe, compL vs h tt te (ds.drop i) acc.length ρi = .ok os ρe ∧ PostE X W Hf1 T F σ (.ok (.lst (acc ++ os)) (relay vs ρ1 ρe)) Q
    have start : Rest 0 [] (fgt vs ρ1) := by
      cases q2 : compL vs h tt te ds 0 (fgt vs ρ1) with
      | ok os ρe => rw [q2] at hh; exact ⟨os, ρe, q2, PostE.mono sm1 hh⟩
      | exc e ρe => rw [q2] at hh; exact hh.elim
      | stk => rw [q2] at hh; exact hh.elim
    refine ⟨fun i m H => m = ds.length - i ∧ i ≤ ds.length ∧ ∃ Hf2 ρ2 acc, Same Hf1 Hf2 ∧ SI X.K Hf2 ((.ref D, .lst acc) :: T) (fgt vs ρ2) F (wipe σ vs) H ∧ Rest i acc (fgt vs ρ2), ⟨ds.length, rfl, Nat.zero_le _, Hf1, ρ1, [], Same.refl _, ?_, start⟩, ?_⟩
    · have s2 := (s1.fgt vs).rewipe (wipe_wipe σ vs)
      obtain ⟨its, F2, s3, bk⟩ := s2.ex2
      exact bk ((.ref D, .lst []) :: T) _ _ (Same.refl _) (SX.newOwn (C := []) s3 hD fun bs hb => by cases hb; exact .lst .nil)
    rintro i m H2 ⟨rfl, hi, Hf2, ρ2, acc, sm2, s2, rest⟩
    have ext : Ext Hf1 (Hf1.on H2) := (Same.ext sm2 s2.sub).on
    by_cases hlt : i < ds.length
    · have hdrop : ds.drop i = ds[i] :: ds.drop (i + 1) := List.drop_eq_getElem_cons hlt
      obtain ⟨os, ρe, hc, hp⟩ := rest
      rw [hdrop] at hc
      unfold compL at hc
      refine .inr ⟨wd.goes i H2 hlt ext, fun H' => ∃ Hf3 ρ3 acc', Same Hf1 Hf3 ∧ SI X.K Hf3 ((.ref D, .lst acc') :: T) (fgt vs ρ3) F (wipe σ vs) H' ∧ Rest (i + 1) acc' (fgt vs ρ3), fun H' ⟨Hf3, ρ3, acc', a1, a2, a3⟩ => ⟨ds.length - (i + 1), by omega, rfl, hlt, Hf3, ρ3, acc', a1, a2, a3⟩, fun y H' hy => ?_⟩
      obtain ⟨d, hd, hy⟩ := wd.yields i H2 y H' hlt ext hy
      have ed : d = ds[i] := by
        rw [List.getElem?_eq_getElem hlt] at hd
        exact (Option.some.inj hd).symm
      subst ed
      have base : ∃ Hf3, Same Hf2 Hf3 ∧ SI X.K Hf3 ((y, .sh ds[i]) :: (.ref D, .lst acc) :: T) (fgt vs ρ2) F (wipe σ vs) H' := by
        rcases hy with ⟨rfl, r⟩ | ⟨U, xs, es, rfl, hU, rfl, r, e⟩ | ⟨q, xs, es, rfl, rfl, hq, r, e⟩
        · exact ⟨Hf2, Same.refl _, s2.add (r.mono (.of sm2))⟩
        · obtain ⟨its, F2, s3, bk⟩ := s2.ex2
          obtain ⟨s4, sm4⟩ := s3.mkTup (r.mono (.of sm2)) hU
          rw [e]
          exact ⟨_, sm4, bk ((_, _) :: (_, _) :: T) _ _ sm4 s4⟩
        · obtain ⟨its, F2, s3, bk⟩ := s2.ex2
          obtain ⟨Hf4, sm4, s4⟩ := s3.learn hq (r.mono (.of sm2))
          rw [e]
          exact ⟨_, sm4, bk ((_, _) :: (_, _) :: T) _ _ sm4 s4⟩
      obtain ⟨Hf3, sm3, s3⟩ := base
      refine ⟨Hf3, (.ref D, .lst acc) :: T, fgt vs ρ2, F, .sh ds[i], s3, ?_⟩
      cases q2 : h (.sh ds[i]) (fgt vs ρ2) with
      | none => simp only [q2] at hc; cases hc
      | some ρ3 =>
        simp only [q2] at hc
        refine fun σ4 H4 Hf4 ew sm4 s4 => ⟨by rw [ew, wipe_wipe], Hf4, (.ref D, .lst acc) :: T, ρ3, F, s4, ?_⟩
        have ew' : wipe (wipe σ vs) vs = wipe σ4 vs := ew.symm
        cases q3 : tt ρ3 with
        | exc e ρ4 => simp only [q3] at hc; cases hc
        | stk => simp only [q3] at hc; cases hc
        | ok b ρ4 =>
          intro H5 Hf5 sm5 s5
          cases b with
          | false =>
            simp only [q3] at hc
            rw [if_neg Bool.false_ne_true]
            exact ⟨Hf5, ρ4, acc, sm2.trans (sm3.trans (sm4.trans sm5)), (s5.fgt vs).rewipe ew', os, ρe, hc, hp⟩
          | true =>
            simp only [q3] at hc
            rw [if_pos rfl]
            refine ⟨Hf5, (.ref D, .lst acc) :: T, ρ4, F, s5, ?_⟩
            cases q4 : te ρ4 with
            | exc e ρ5 => simp only [q4] at hc; cases hc
            | stk => simp only [q4] at hc; cases hc
            | ok o ρ5 =>
              simp only [q4] at hc
              by_cases hz : acc.length < sizeLine
              · rw [if_pos hz] at hc
                cases q5 : compL vs h tt te (ds.drop (i + 1)) (acc.length + 1) (fgt vs ρ5) with
                | exc e ρ6 => simp only [q5] at hc; cases hc
                | stk => simp only [q5] at hc; cases hc
                | ok os' ρ6 =>
                  simp only [q5] at hc
                  cases hc
                  intro v H6 Hf6 sm6 s6
                  obtain ⟨its, F2, s7, bk⟩ := s6.ex2
                  have s8 := s7.perm (List.Perm.swap (.ref D, .lst acc) (v, o) (T ++ its))
                  obtain ⟨xs, hl, hDD, s9⟩ := s8.push
                  refine ⟨xs, hDD, by rw [hl]; exact hz, Hf6, ρ5, acc ++ [o], sm2.trans (sm3.trans (sm4.trans (sm5.trans sm6))), SI.rewipe (SI.fgt vs (bk ((_, _) :: T) _ _ (Same.refl _) s9)) ew', os', ρe, ?_, ?_⟩
                  · rw [List.length_append]; exact q5
                  · rw [List.append_assoc]; exact hp
              · rw [if_neg hz] at hc; cases hc
    · have e : i = ds.length := by omega
      subst e
      refine .inl ⟨wd.stops H2 ext, ?_⟩
      obtain ⟨os, ρe, hc, hp⟩ := rest
      rw [List.drop_length] at hc
      cases hc
      rw [List.append_nil] at hp
      have s3 : SI X.K Hf2 ((.ref D, .lst acc) :: T) (fgt vs ρ2) F σ H2 := s2.rewipe (wipe_wipe σ vs).symm
      exact hp (.ref D) H2 Hf2 sm2 (SI.relay s1 sm2 vs s3)
theorem ev_lc (G : Good X W m) (hi : EvI X W tg iter fi) (ok : BlkOk X.N X.env.scope scope own)
    (hg : ∀ (s : Shared) (H : Hp) (C : Addr) (cl : List (Str × Addr)) (fp : List Addr), EvG (X.blk s H scope (compEnvC scope cl C X.env) fp) (own.map fun p : Str × Nat => p.2) tg h)
    (ht : ∀ (s : Shared) (H : Hp) (C : Addr) (cl : List (Str × Addr)) (fp : List Addr), EvTs (X.blk s H scope (compEnvC scope cl C X.env) fp) W0 ifs tt)
    (he : ∀ (s : Shared) (H : Hp) (C : Addr) (cl : List (Str × Addr)) (fp : List Addr), EvE (X.blk s H scope (compEnvC scope cl C X.env) fp) W0 elt te) (hs : ∀ x, foldedSetIterable iter X.env x = pure x := by intro _; rfl) :
    EvE X W (.ListComp elt [⟨tg, iter, ifs, 0⟩] scope pos) (eLc (own.map fun p : Str × Nat => p.2) fi h tt te) :=
  pe_w (pe_lc (g := tG X (own.map fun p : Str × Nat => p.2) h) (tt := tT X W0 tt) (te := tE X W0 te) G.calm G.nd hi ok hg ht he hs) fun σ H Q ⟨Hf, T, ρ, F, s, hh⟩ => lc_post _ s hh
theorem es_setLc {i : Nat} {y : Str} {py spos : Pos} (G : Good X W m) (hy : X.N[i]? = some y) (hyl : X.env.scope.names.lookup y = some .local)
    (hsw : swapsWith (.ListComp elt [⟨tg, iter, ifs, 0⟩] scope pos) (some (.Name y py)) spos.line X.env = pure true) (hi : EvI X W tg iter fi) (ok : BlkOk X.N X.env.scope scope own)
    (hg : ∀ (s : Shared) (H : Hp) (C : Addr) (cl : List (Str × Addr)) (fp : List Addr), EvG (X.blk s H scope (compEnvC scope cl C X.env) fp) (own.map fun p : Str × Nat => p.2) tg h)
    (ht : ∀ (s : Shared) (H : Hp) (C : Addr) (cl : List (Str × Addr)) (fp : List Addr), EvTs (X.blk s H scope (compEnvC scope cl C X.env) fp) W0 ifs tt)
    (he : ∀ (s : Shared) (H : Hp) (C : Addr) (cl : List (Str × Addr)) (fp : List Addr), EvE (X.blk s H scope (compEnvC scope cl C X.env) fp) W0 elt te) (hs : ∀ x, foldedSetIterable iter X.env x = pure x := by intro _; rfl) :
    EvS X W (.Assign [.Name y py] (.ListComp elt [⟨tg, iter, ifs, 0⟩] scope pos) spos) (sSet i (eLc (own.map fun p : Str × Nat => p.2) fi h tt te)) :=
  ps_w (ps_setLc (g := tG X (own.map fun p : Str × Nat => p.2) h) (tt := tT X W0 tt) (te := tE X W0 te) G.calm G.nd hy hyl hsw hi ok hg ht he hs) fun D σ H ⟨Hf, ρ, F, s, hh⟩ => by
    have z : tE X W (eLc (own.map fun p : Str × Nat => p.2) fi h tt te) σ H fun v H1 => gName i v σ H1 D.nx :=
      ⟨Hf, [], ρ, F, s, PostE.bindS hh fun o ρ1 v H1 Hf1 sm s1 h1 => h1 _ H1 Hf1 (Same.refl _) (s1.put' i)⟩
    obtain ⟨Hf', T', ρ', F', s', h'⟩ := z
    exact lc_post _ s' h'
end
def putG {κ α : Type} [DecidableEq κ] : List (κ × α) → κ → α → List (κ × α)
  | [], k, x => [(k, x)]
  | (k', y) :: r, k, x => if k' = k then (k', x) :: r else (k', y) :: putG r k x
theorem putK_eq {κ : Type} [DecidableEq κ] (k : κ) (v : V) : ∀ {kvs : List (κ × V)}, (kvs.map (·.1)).Nodup → putK kvs k v = putG kvs k v
  | [], _ => rfl
  | (k', y) :: r, n => by
    have n' := List.nodup_cons.mp (show (k' :: r.map (·.1)).Nodup from n)
    have ih := putK_eq k v n'.2
    unfold putG
    by_cases e : k' = k
    · subst e
      rw [if_pos rfl]
      unfold putK
      rw [if_pos (by simp)]
      rw [List.map_cons, if_pos rfl]
      have : r.map (fun kv : κ × V => if kv.1 = k' then (kv.1, v) else kv) = r := by
        conv => rhs; rw [← List.map_id r]
        refine List.map_congr_left fun p hp => ?_
        rw [if_neg]
        · rfl
        · intro z; exact n'.1 (by rw [← z]; exact List.mem_map.mpr ⟨p, hp, rfl⟩)
      rw [this]
    · rw [if_neg e, ← ih]
      unfold putK
      by_cases h : (r.any fun kv => decide (kv.1 = k)) = true
      · rw [if_pos h, if_pos (by rw [List.any_cons, h, Bool.or_true]), List.map_cons, if_neg e]
      · rw [if_neg h, if_neg (by rw [List.any_cons, decide_eq_false e, Bool.false_or]; exact h)]
        rfl
section
variable {K : PySem.W.Frag} {Hf : Hg} {H : Hp} {its : Its} {F : Fr} {bs : Bs} {v : V} {o : OV} {a : Addr}
theorem ownL_put {κ : Type} [DecidableEq κ] (k : κ) {b : Bs} (hv : Own K Hf v o b) : ∀ {ks : List κ} {vs : List V} {os : List OV} {bs : Bs}, ks.Nodup → ks.length = vs.length → OwnL K Hf vs os bs →
    ∃ (ks' : List κ) (vs' : List V) (os' : List OV) (cs dr : Bs), ks'.Nodup ∧ (∀ x, x ∈ ks' ↔ x ∈ ks ∨ x = k) ∧ ks'.length = vs'.length ∧ putG (ks.zip vs) k v = ks'.zip vs' ∧ putG (ks.zip os) k o = ks'.zip os' ∧ OwnL K Hf vs' os' cs ∧ (cs ++ dr).Perm (bs ++ b)
  | [], [], _, _, _, _, .nil => ⟨[k], [v], [o], b ++ [], [], by simp, by simp, rfl, rfl, rfl, .cons hv .nil, by simp⟩
  | k' :: ks, w :: vs, p :: os, _, n, l, .cons (b1 := b1) (b2 := b2) h r => by
    have n' := List.nodup_cons.mp n
    by_cases e : k' = k
    · subst e
      refine ⟨k' :: ks, v :: vs, o :: os, b ++ b2, b1, n, fun x => by simp [or_comm], l, ?_, ?_, .cons hv r, ?_⟩
      · simp [putG]
      · simp [putG]
      · have h1 : (b ++ b2 ++ b1).Perm (b1 ++ (b ++ b2)) := List.perm_append_comm
        have h2 : (b1 ++ (b ++ b2)).Perm (b1 ++ (b2 ++ b)) := List.Perm.append_left _ List.perm_append_comm
        have h3 := h1.trans h2
        simpa [List.append_assoc] using h3
    · obtain ⟨ks', vs', os', cs, dr, m, mm, l', e1, e2, h', q⟩ := ownL_put k hv (ks := ks) (vs := vs) (os := os) n'.2 (by simpa using l) r
      refine ⟨k' :: ks', w :: vs', p :: os', b1 ++ cs, dr, ?_, fun x => ?_, by simp [l'], ?_, ?_, .cons h h', ?_⟩
      · exact List.nodup_cons.mpr ⟨fun z => by
          rcases (mm k').mp z with z | z
          · exact n'.1 z
          · exact e z, m⟩
      · rw [List.mem_cons, List.mem_cons, mm x, or_assoc]
      · simp [putG, e, e1]
      · simp [putG, e, e2]
      · rw [List.append_assoc, List.append_assoc]
        exact q.append_left b1
theorem SX.setAt {os : List OV} {i : Nat} (hi : i < os.length) (s : SX K Hf ((.ref a, .lst os) :: (v, o) :: its) F H) : ∃ vs, vs.length = os.length ∧ H a = some (.lst vs) ∧ SX K Hf ((.ref a, .lst (os.set i o)) :: its) F (upd H a (.lst (vs.set i v))) := by
  obtain ⟨u, u', h1, ⟨vs, rfl, rfl, hl⟩, h2⟩ := SX.chg (C := [(v, o)]) (o' := .lst (os.set i o)) (fun u u' => ∃ vs, u = .lst vs ∧ u' = .lst (vs.set i v) ∧ vs.length = os.length) (by rintro _ _ ⟨_, rfl, _⟩ _ h; cases h) s (fun bs q => by
    cases q with
    | @lst _ vs _ b0 q =>
      refine ⟨_, _, rfl, fun c1 hc => ?_⟩
      cases hc with
      | @cons _ _ _ b _ hc hr =>
        cases hr
        obtain ⟨w, c0, d1, c2, _, rfl, _, f⟩ := q.split (List.getElem?_eq_getElem hi)
        refine ⟨.lst (vs.set i v), c0 ++ b ++ c2, d1, ?_, .lst (f o b v hc), vs, rfl, rfl, q.len⟩
        rw [List.append_nil]
        have h1 : (c0 ++ b ++ c2 ++ d1).Perm (c0 ++ (d1 ++ (c2 ++ b))) := by
          rw [List.append_assoc, List.append_assoc]
          refine List.Perm.append_left _ ?_
          have : (b ++ (c2 ++ d1)).Perm ((c2 ++ d1) ++ b) := List.perm_append_comm
          refine this.trans ?_
          rw [← List.append_assoc]
          exact List.Perm.append_right _ List.perm_append_comm
        simpa [List.append_assoc] using h1)
  exact ⟨vs, hl, h1, h2⟩
theorem SX.putDK {kvs : List (Key × OV)} (k : Key) (s : SX K Hf ((.ref a, .dk kvs) :: (v, o) :: its) F H) : ∃ kv, kv.length = kvs.length ∧ H a = some (.dK kv) ∧ SX K Hf ((.ref a, .dk (putG kvs k o)) :: its) F (upd H a (.dK (putK kv k v))) := by
  obtain ⟨u, u', h1, ⟨kv, rfl, rfl, hl⟩, h2⟩ := SX.chg (C := [(v, o)]) (o' := .dk (putG kvs k o)) (fun u u' => ∃ kv, u = .dK kv ∧ u' = .dK (putK kv k v) ∧ kv.length = kvs.length) (by rintro _ _ ⟨_, rfl, _⟩ _ h; cases h) s (fun bs q => by
    cases q with
    | @dk _ ks vs os b0 l nd q =>
      refine ⟨_, _, rfl, fun c1 hc => ?_⟩
      cases hc with
      | @cons _ _ _ b _ hc hr =>
        cases hr
        obtain ⟨ks', vs', os', cs, dr, m, _, l', e1, e2, h', qq⟩ := ownL_put k hc nd l q
        refine ⟨.dK (ks'.zip vs'), cs, dr, by simpa using qq, ?_, ks.zip vs, rfl, ?_, ?_⟩
        · rw [e2]; exact .dk l' m h'
        · rw [putK_eq k v (by rw [zip_fst_map (fun x => x) ks vs l]; simpa using nd), e1]
        · simp [l, q.len])
  exact ⟨kv, hl, h1, h2⟩
theorem SX.putDT {kvs : List (List Key × OV)} (k : List Key) (s : SX K Hf ((.ref a, .dt kvs) :: (v, o) :: its) F H) : ∃ kv, kv.length = kvs.length ∧ H a = some (.dT kv) ∧ SX K Hf ((.ref a, .dt (putG kvs k o)) :: its) F (upd H a (.dT (putK kv k v))) := by
  obtain ⟨u, u', h1, ⟨kv, rfl, rfl, hl⟩, h2⟩ := SX.chg (C := [(v, o)]) (o' := .dt (putG kvs k o)) (fun u u' => ∃ kv, u = .dT kv ∧ u' = .dT (putK kv k v) ∧ kv.length = kvs.length) (by rintro _ _ ⟨_, rfl, _⟩ _ h; cases h) s (fun bs q => by
    cases q with
    | @dt _ ks vs os b0 l nd q =>
      refine ⟨_, _, rfl, fun c1 hc => ?_⟩
      cases hc with
      | @cons _ _ _ b _ hc hr =>
        cases hr
        obtain ⟨ks', vs', os', cs, dr, m, _, l', e1, e2, h', qq⟩ := ownL_put k hc nd l q
        refine ⟨.dT (ks'.zip vs'), cs, dr, by simpa using qq, ?_, ks.zip vs, rfl, ?_, ?_⟩
        · rw [e2]; exact .dt l' m h'
        · rw [putK_eq k v (by rw [zip_fst_map (fun x => x) ks vs l]; simpa using nd), e1]
        · simp [l, q.len])
  exact ⟨kv, hl, h1, h2⟩
theorem SX.more {os : List OV} {ys : List V} {ds : List PyData} (s : SX K Hf ((.ref a, .lst os) :: its) F H) (r : RpAll K Hf ys ds) : ∃ vs, vs.length = os.length ∧ H a = some (.lst vs) ∧ SX K Hf ((.ref a, .lst (os ++ ds.map .sh)) :: its) F (upd H a (.lst (vs ++ ys))) := by
  obtain ⟨u, u', h1, ⟨vs, rfl, rfl, hl⟩, h2⟩ := SX.chg (C := []) (o' := .lst (os ++ ds.map .sh)) (fun u u' => ∃ vs, u = .lst vs ∧ u' = .lst (vs ++ ys) ∧ vs.length = os.length) (by rintro _ _ ⟨_, rfl, _⟩ _ h; cases h) s (fun bs q => by
    cases q with
    | @lst _ vs _ b0 q =>
      refine ⟨_, _, rfl, fun c1 hc => ?_⟩
      cases hc
      exact ⟨.lst (vs ++ ys), _, [], by simp, .lst (q.append (.of_rp r)), vs, rfl, rfl, q.len⟩)
  exact ⟨vs, hl, h1, h2⟩
theorem SX.kref {kvs : List (Key × OV)} (s : SX K Hf ((v, .dk kvs) :: its) F H) : ∃ a kv, v = .ref a ∧ H a = some (.dK kv) := by
  obtain ⟨⟨bs, h, n, al⟩, e, mm⟩ := s
  cases h with
  | cons h r => cases h; exact ⟨_, _, rfl, (al _ (List.mem_append_left _ (List.mem_append_left _ List.mem_cons_self))).1⟩
theorem SX.tref {kvs : List (List Key × OV)} (s : SX K Hf ((v, .dt kvs) :: its) F H) : ∃ a kv, v = .ref a ∧ H a = some (.dT kv) := by
  obtain ⟨⟨bs, h, n, al⟩, e, mm⟩ := s
  cases h with
  | cons h r => cases h; exact ⟨_, _, rfl, (al _ (List.mem_append_left _ (List.mem_append_left _ List.mem_cons_self))).1⟩
end
def OpM (K : PySem.W.Frag) (r : V → List V → Hp → VK → Prop) (g : OV → List OV → Option (OV × OV)) : Prop :=
  ∀ (Hf : Hg) (its : Its) (F : Fr) (H : Hp) (v : V) (o : OV) (vs : List V) (os : List OV) (o' res : OV) (Q : VK), vs.length = os.length → SX K Hf ((v, o) :: (vs.zip os ++ its)) F H → g o os = some (o', res) →
    (∀ x H' Hf', Same Hf Hf' → SX K Hf' ((x, res) :: (v, o') :: its) F H' → Q x H') → r v vs H Q
def ownT : OV → String
  | .lst _ => "list"
  | .dk _ => "dict"
  | .dt _ => "dict"
  | .sh _ => ""
  | .tup _ => ""
theorem tyV_own {K : PySem.W.Frag} {Hf : Hg} {H : Hp} {its : Its} {F : Fr} {v : V} {o : OV} (s : SX K Hf ((v, o) :: its) F H) (h : ownT o ≠ "") : tyV K (ownT o) v H := by
  cases o with
  | sh d => exact absurd rfl h
  | tup d => exact absurd rfl h
  | lst os =>
    obtain ⟨a, rfl⟩ := s.lstRef
    obtain ⟨vs, _, h1⟩ := s.lstAt
    exact .inl ⟨rfl, vs, SqL.of h1⟩
  | dk kvs =>
    obtain ⟨a, kv, rfl, h1⟩ := s.kref
    exact .inr (.inr (.inl ⟨rfl, .inl ⟨kv, h1⟩⟩))
  | dt kvs =>
    obtain ⟨a, kv, rfl, h1⟩ := s.tref
    exact .inr (.inr (.inl ⟨rfl, .inr ⟨kv, h1⟩⟩))
def ofM (i : Nat) (g : OV → List OV → Option (OV × OV)) (os : List OV) (ρ : Rho) : Re := match ρ.sl[i]? with
  | some (some o) => match g o os with
    | some (o', res) => .ok res (ρ.set i (some o'))
    | none => .stk
  | _ => .stk
def eMut (i : Nat) (T : String) (g : OV → List OV → Option (OV × OV)) (fl : Rho → ReL) (ρ : Rho) : Re := match ρ.sl[i]? with
  | some (some o) => if ownT o = T then bindL (fl ρ) (ofM i g) else .stk
  | _ => .stk
section
variable {X : Cx} {W : WX} {e a b c : Expr} {es : List Expr} {f fa fb fk : Rho → Re} {fl : Rho → ReL} {pos apos cpos : Pos} {n m k : Nat} {x : Str} {name : Str} {T id : String} {r : V → List V → Hp → VK → Prop} {g : OV → List OV → Option (OV × OV)}
theorem mut_post {i : Nat} (ho : OpM X.K r g) {Hf : Hg} {T' : Its} {ρ : Rho} {F : Bs} {σ : St} {H : Hp} {Q : VK} {v : V} {vs : List V} {os : List OV} (hv : σ[i]? = some (some v)) (l : vs.length = os.length) (s : SI X.K Hf (vs.zip os ++ T') ρ F σ H) (h : PostE X W Hf T' F σ (ofM i g os ρ) Q) : r v vs H Q := by
  unfold ofM at h
  cases q : ρ.sl[i]? with
  | none => rw [q] at h; exact h.elim
  | some y =>
    cases y with
    | none => rw [q] at h; exact h.elim
    | some o =>
      simp only [q] at h
      cases q2 : g o os with
      | none => simp only [q2] at h; exact h.elim
      | some p =>
        obtain ⟨o', res⟩ := p
        simp only [q2] at h
        obtain ⟨w, hw, s1, back⟩ := s.take q
        rw [hv] at hw
        obtain rfl : v = w := by injection hw with z; injection z
        obtain ⟨its, F2, s2, bk⟩ := s1.ex2
        have e1 : (v, o) :: (vs.zip os ++ T') ++ its = (v, o) :: (vs.zip os ++ (T' ++ its)) := by simp
        rw [e1] at s2
        refine ho Hf (T' ++ its) F2 H v o vs os o' res Q l s2 q2 fun y H' Hf' sm s3 => h y H' Hf' sm ?_
        have s4 : SX X.K Hf' ((v, o') :: (y, res) :: (T' ++ its)) F2 H' := s3.perm (List.Perm.swap _ _ _)
        have := SI.put' (T := (y, res) :: T') (o := o') (v := v) i (bk _ _ _ sm s4)
        have e2 : (ρ.set i none).set i (some o') = ρ.set i (some o') := by simp
        have e3 : σ.set i (some v) = σ := by
          apply List.ext_getElem?
          intro j
          by_cases e : i = j
          · subst e
            by_cases hl : i < σ.length
            · rw [List.getElem?_set_self hl, hv]
            · rw [List.set_eq_of_length_le (by omega)]
          · rw [List.getElem?_set_ne e]
        rw [e2, e3] at this
        exact this
def mApp (o : OV) (os : List OV) : Option (OV × OV) := match o, os with
  | .lst xs, [y] => if xs.length < sizeLine then some (.lst (xs ++ [y]), .sh .none) else none
  | _, _ => none
theorem opm_app {K : PySem.W.Frag} : OpM K rAppend mApp := by
  intro Hf its F H v o vs os o' res Q l s h q
  unfold mApp at h
  split at h
  · rename_i xs y
    split at h
    · rename_i hz
      cases h
      match vs, l with
      | [w], _ =>
        obtain ⟨ad, rfl⟩ := s.lstRef
        obtain ⟨ws, hl, h1, s2⟩ := SX.push (its := its) s
        exact ⟨ad, ws, w, rfl, rfl, h1, by rw [hl]; exact hz, q _ _ _ (Same.refl _) (s2.add .non)⟩
    · cases h
  · cases h
def mIns (o : OV) (os : List OV) : Option (OV × OV) := match o, os with
  | .lst xs, [.sh (.int i), .sh d] => if xs.length < sizeLine ∧ 0 ≤ i ∧ i < 2 ^ 63 ∧ xs.all (fun x => match x with | .sh _ => true | _ => false) = true then some (.lst (xs.take i.toNat ++ .sh d :: xs.drop i.toNat), .sh .none) else none
  | _, _ => none
end
theorem opm_ins {K : PySem.W.Frag} : OpM K (fun x vs H Q => ∃ (l : Addr) (xs : List V) (i : Int) (y : V), x = .ref l ∧ vs = [.int i, y] ∧ H l = some (.lst xs) ∧ xs.length < sizeLine ∧ 0 ≤ i ∧ i < 2 ^ 63 ∧ Q .non (upd H l (.lst (xs.take i.toNat ++ [y] ++ xs.drop i.toNat)))) mIns := by
  intro Hf its F H v o vs os o' res Q l s h q
  unfold mIns at h
  split at h
  · rename_i xs i d
    split at h
    · rename_i hc
      cases h
      obtain ⟨hz, h0, h1, hall⟩ := hc
      match vs, l with
      | [w, y], _ =>
        obtain ⟨ad, rfl⟩ := s.lstRef
        have sw : SX K Hf ((w, .sh (.int i)) :: (.ref ad, .lst xs) :: (y, .sh d) :: its) F H := s.perm (List.Perm.swap _ _ _)
        have ew := rp_int sw.rp
        subst ew
        have sy : SX K Hf ((y, .sh d) :: (.ref ad, .lst xs) :: its) F H := sw.drop.perm (List.Perm.swap _ _ _)
        have ry := sy.rp
        obtain ⟨u, u', h2, ⟨ws, rfl, rfl, hl⟩, h3⟩ := SX.chg (C := []) (o' := .lst (xs.take i.toNat ++ .sh d :: xs.drop i.toNat)) (fun u u' => ∃ ws, u = .lst ws ∧ u' = .lst (ws.take i.toNat ++ [y] ++ ws.drop i.toNat) ∧ ws.length = xs.length) (by rintro _ _ ⟨_, rfl, _⟩ _ h; cases h) sy.drop (fun bs qq => by
          cases qq with
          | @lst _ ws _ b0 qq =>
            refine ⟨_, _, rfl, fun c1 hc => ?_⟩
            cases hc
            have sh : ∀ (ws : List V) (xs : List OV) (b0 : Bs), xs.all (fun x => match x with | .sh _ => true | _ => false) = true → OwnL K Hf ws xs b0 → ∃ ds : List PyData, xs = ds.map .sh := by
              intro ws xs
              induction xs generalizing ws with
              | nil => intro _ _ _; exact ⟨[], rfl⟩
              | cons x xs ih =>
                intro b0 ha hb
                rw [List.all_cons, Bool.and_eq_true] at ha
                cases hb with
                | cons hx hr =>
                  obtain ⟨ds, rfl⟩ := ih _ _ ha.2 hr
                  cases x with
                  | sh d => exact ⟨d :: ds, rfl⟩
                  | lst _ => exact absurd ha.1 Bool.false_ne_true
                  | dk _ => exact absurd ha.1 Bool.false_ne_true
                  | dt _ => exact absurd ha.1 Bool.false_ne_true
                  | tup _ => exact absurd ha.1 Bool.false_ne_true
            obtain ⟨ds, rfl⟩ := sh _ _ _ hall qq
            obtain ⟨ra, rfl⟩ := qq.to_rp
            refine ⟨.lst (ws.take i.toNat ++ [y] ++ ws.drop i.toNat), [], [], by simp, ?_, ws, rfl, rfl, qq.len⟩
            have rr := ((ra.take i.toNat).append (.cons ry .nil)).append (ra.drop i.toNat)
            have := OwnL.of_rp rr
            simp only [List.map_append, List.map_take, List.map_drop, List.map_cons, List.map_nil] at this
            rw [List.append_assoc] at this
            exact .lst (by simpa using this))
        exact ⟨ad, ws, i, y, rfl, rfl, h2, by rw [hl]; exact hz, h0, h1, q _ _ _ (Same.refl _) (h3.add .non)⟩
    · cases h
  · cases h
section
variable {X : Cx} {W : WX} {e a b c : Expr} {es : List Expr} {f fa fb fk : Rho → Re} {fl : Rho → ReL} {p pos apos cpos : Pos} {n m k : Nat} {x : Str}
def tPo (X : Cx) (W : WX) : Option (Rho → Re) → TO
  | none => tNoPart
  | some f => tPart (tE X W f)
def EvO (X : Cx) (W : WX) (e : Option Expr) (f : Option (Rho → Re)) : Prop := PO X e (tPo X W f)
theorem eo_none : EvO X W none none := po_none
theorem eo_some (h : EvE X W e f) : EvO X W (some e) (some f) := po_some h
def partR (f : Option (Rho → Re)) (ρ : Rho) (k : Option Int → Rho → Re) : Re := match f with
  | none => k none ρ
  | some f => bindE (f ρ) fun o ρ1 => match o with
    | .sh (.int i) => k (some i) ρ1
    | _ => .stk
theorem part_post {fo : Option (Rho → Re)} {Hf : Hg} {T T' : Its} {ρ : Rho} {F : Bs} {σ : St} {H : Hp} {Q : VK} {kk : Option Int → Rho → Re} {Q1 : Option Int → Hp → Prop} (s : SI X.K Hf T' ρ F σ H) (h : PostE X W Hf T F σ (partR fo ρ kk) Q)
    (hk : ∀ i ρ1 H1 Hf1, Same Hf Hf1 → SI X.K Hf1 T' ρ1 F σ H1 → PostE X W Hf1 T F σ (kk i ρ1) Q → Q1 i H1) : tPo X W fo σ H Q1 := by
  cases fo with
  | none => exact hk none ρ H Hf (Same.refl _) s h
  | some f =>
    refine ⟨Hf, T', ρ, F, s, PostE.bind h fun o ρ1 v H1 Hf1 sm s1 h1 => ?_⟩
    cases o with
    | sh d =>
      cases d with
      | int i =>
        have e := rp_int s1.rp
        subst e
        exact ⟨i, rfl, hk (some i) ρ1 H1 Hf1 sm s1.drop h1⟩
      | _ => exact h1.elim
    | _ => exact h1.elim
def cutD {α : Type} (xs : List α) (lo hi : Option Int) : List α := (xs.drop (HT.sIx xs.length 0 lo)).take (HT.sIx xs.length xs.length hi - HT.sIx xs.length 0 lo)
theorem rpAll_cut {K : PySem.W.Frag} {H : Hg} {vs : List V} {ds : List PyData} (r : RpAll K H vs ds) (lo hi : Option Int) : RpAll K H (cutV vs lo hi) (cutD ds lo hi) := by
  unfold cutV cutD
  rw [r.len]
  exact (r.drop _).take _
def gSl (a : OV) (lo hi : Option Int) : Option OV := match fz a with
  | .list ds => some (.lst ((cutD ds lo hi).map .sh))
  | .tuple ds => some (.sh (.tuple (cutD ds lo hi)))
  | .str z => if z.length ≤ sizeLine then some (.sh (.str (cutS z lo hi))) else none
  | _ => none
def eSl (fa : Rho → Re) (lo hi : Option (Rho → Re)) (ρ : Rho) : Re := bindE (fa ρ) fun a ρ1 => partR lo ρ1 fun l ρ2 => partR hi ρ2 fun h ρ3 => ofO (gSl a l h) ρ3
theorem ev_sl {lo hi : Option Expr} {fl fh : Option (Rho → Re)} {p2 : Pos} (ha : EvE X W a fa) (hl : EvO X W lo fl) (hh : EvO X W hi fh) : EvE X W (.Subscript a (.Slice lo hi none p2) pos) (eSl fa fl fh) :=
  pe_w (pe_slice (sl_list.or (sl_tupA.or sl_str)) ha hl hh) fun σ H Q ⟨Hf, T, ρ, F, s, h⟩ => by
    refine ⟨Hf, T, ρ, F, s, PostE.bind h fun o ρ1 v H1 Hf1 sm s1 h1 => ?_⟩
    refine part_post s1 h1 fun l ρ2 H2 Hf2 sm2 s2 h2 => ?_
    refine part_post s2 h2 fun u ρ3 H3 Hf3 sm3 s3 h3 => ?_
    obtain ⟨Hf4, sm4, s4⟩ := s3.freeze
    unfold gSl at h3
    cases hd : fz o with
    | list ds =>
      rw [hd] at s4
      simp only [hd, ofO] at h3
      obtain ⟨ad, xs, rfl, t1, r1⟩ := s4.rp.sqL
      refine .inl ⟨ad, xs, rfl, s4.sub.sqL t1, fun q hq => ?_⟩
      obtain ⟨its, F2, s5, bk⟩ := s4.drop.ex2
      exact h3 _ _ _ sm4 (bk (_ :: _) _ _ (Same.refl _) (s5.mkLst (rpAll_cut r1 l u) hq))
    | tuple ds =>
      rw [hd] at s4
      simp only [hd, ofO] at h3
      obtain ⟨ad, xs, rfl, t1, r1⟩ := s4.rp.sqT
      refine .inr (.inl ⟨ad, xs, rfl, s4.sub.sqT t1, fun hw => ?_, fun hw q hq => ?_⟩)
      · have e : cutD ds l u = ds := by
          unfold cutD
          rw [← r1.len, hw.1, hw.2, List.drop_zero, Nat.sub_zero, r1.len, List.take_length]
        rw [e] at h3
        exact h3 _ _ _ sm4 s4
      · obtain ⟨its, F2, s5, bk⟩ := s4.drop.ex2
        obtain ⟨s6, sm6⟩ := s5.mkTup (rpAll_cut r1 l u) hq
        exact h3 _ _ _ (sm4.trans sm6) (bk (_ :: _) _ _ sm6 s6)
    | str z =>
      rw [hd] at s4
      simp only [hd] at h3
      by_cases hz : z.length ≤ sizeLine
      · rw [if_pos hz] at h3
        have e := rp_str s4.rp
        subst e
        exact .inr (.inr ⟨z, rfl, hz, h3 _ _ _ sm4 (s4.drop.add (.str _))⟩)
      · rw [if_neg hz] at h3; exact h3.elim
    | _ => simp only [hd, ofO] at h3; exact h3.elim
def dRev : PyData → Option OV
  | .list ds => some (.lst (ds.reverse.map .sh))
  | _ => none
theorem ev_rev {k : Nat} {p1 p2 p3 : Pos} (ha : EvE X W a fa) : EvE X W (.Subscript a (.Slice none none (some (.UnaryOp .USub (.Constant (.int 1) k p1) p2)) p3) pos) (eUn (fun o => dRev (fz o)) fa) :=
  pe_w (pe_revL ha) fun σ H Q ⟨Hf, T, ρ, F, s, h⟩ => ⟨Hf, T, ρ, F, s, PostE.bind h fun o ρ1 v H1 Hf1 sm s1 h1 => by
    obtain ⟨Hf2, sm2, s2⟩ := s1.freeze
    cases hd : fz o with
    | list ds =>
      rw [hd] at s2
      simp only [hd, dRev, ofO] at h1
      obtain ⟨ad, xs, rfl, t1, r1⟩ := s2.rp.sqL
      refine ⟨ad, xs, rfl, s2.sub.sqL t1, fun q hq => ?_⟩
      obtain ⟨its, F2, s5, bk⟩ := s2.drop.ex2
      exact h1 _ _ _ sm2 (bk (_ :: _) _ _ (Same.refl _) (s5.mkLst r1.reverse hq))
    | _ => simp only [hd, dRev, ofO] at h1; exact h1.elim⟩
theorem ev_dnewT : EvE X W (.Dict [] [] pos) fun ρ => .ok (.dt []) ρ := pe_w pe_dnewT fun σ H Q ⟨Hf, T, ρ, F, s, h⟩ q hq => by
  obtain ⟨its, F2, s2, bk⟩ := s.ex2
  exact h _ _ _ (Same.refl _) (bk (_ :: _) _ _ (Same.refl _) (SX.newOwn (C := []) s2 hq fun bs hb => by cases hb; exact .dt (ks := []) (vs := []) (os := []) rfl List.nodup_nil .nil))
end
def setO (c : OV) (k : PyData) (o : OV) : Option OV := match c with
  | .lst os => match k with
    | .int j => (ixN os.length j).map fun j => .lst (os.set j o)
    | _ => none
  | .dk kvs => match asDK k with
    | some (.inl q) => if kvs.length < sizeLine then some (.dk (putG kvs q o)) else none
    | _ => none
  | .dt kvs => match asDK k with
    | some (.inr q) => if kvs.length < sizeLine ∧ fineK (.inr q) = true then some (.dt (putG kvs q o)) else none
    | _ => none
  | .sh _ => none
  | .tup _ => none
def rSetA : TSet := fun o i v H Q => rSetL o i v H Q ∨ ∃ a H', o = .ref a ∧ DPut H a i v H' ∧ Q H'
theorem set_any {X : Cx} (hu : X.A.units + 1 < cLine) : PSet X rSetA := fun pins s σ H o i v ov iv u Q I ro ri rv h => by
  rcases h with h | ⟨a, H', e, g, q⟩
  · exact set_list pins s σ H o i v ov iv u Q I ro ri rv h
  · subst e
    cases ro
    exact d_setItem hu I g ri rv fun s' I' => ⟨H', I', q⟩
theorem ixN_lt {n : Nat} {i : Int} {j : Nat} (h : ixN n i = some j) : j < n := (ixN_seq h).2.1
theorem SX.setO {K : PySem.W.Frag} {Hf : Hg} {H : Hp} {its : Its} {F : Fr} {v w y : V} {c c' o : OV} {k : PyData} {Q : Hp → Prop} (s : SX K Hf ((v, c) :: (w, o) :: its) F H) (r : Rp K (Hf.on H) y k) (h : Ev.setO c k o = some c')
    (q : ∀ H', SX K Hf ((v, c') :: its) F H' → Q H') : rSetA v y w H Q := by
  unfold Ev.setO at h
  cases c with
  | sh d => cases h
  | tup d => cases h
  | lst os =>
    obtain ⟨a, rfl⟩ := s.lstRef
    cases k with
    | int j =>
      obtain ⟨n, hn, rfl⟩ := Option.map_eq_some_iff.mp h
      have e := rp_int r
      subst e
      obtain ⟨vs, hl, h1, s2⟩ := SX.setAt (its := its) (ixN_lt hn) s
      exact .inl ⟨a, vs, j, n, rfl, rfl, h1, by rw [hl]; exact hn, q _ s2⟩
    | _ => cases h
  | dk kvs =>
    simp only at h
    split at h
    · rename_i key hk
      split at h
      · rename_i hz
        cases h
        obtain ⟨a, _, rfl, _⟩ := s.kref
        have ek := asDK_inl hk
        subst ek
        have ey := rp_key r
        subst ey
        obtain ⟨kv, hl, h1, s2⟩ := SX.putDK (its := its) key s
        exact .inr ⟨a, _, rfl, .inl ⟨kv, key, h1, rfl, by rw [hl]; exact hz, rfl⟩, q _ s2⟩
      · cases h
    · cases h
  | dt kvs =>
    simp only at h
    split at h
    · rename_i key hk
      split at h
      · rename_i hz
        cases h
        obtain ⟨a, _, rfl, _⟩ := s.tref
        have ek := asDK_inr hk
        subst ek
        obtain ⟨b, rfl, hb⟩ := rp_keyT r hz.2
        obtain ⟨kv, hl, h1, s2⟩ := SX.putDT (its := its) key s
        exact .inr ⟨a, _, rfl, .inr ⟨kv, key, b, h1, rfl, hb, by rw [hl]; exact hz.1, rfl⟩, q _ s2⟩
      · cases h
    · cases h
theorem set_same {σ : St} {i : Nat} {v : V} (h : σ[i]? = some (some v)) : σ.set i (some v) = σ := by
  apply List.ext_getElem?
  intro j
  by_cases e : i = j
  · subst e
    by_cases hl : i < σ.length
    · rw [List.getElem?_set_self hl, h]
    · rw [List.set_eq_of_length_le (by omega)]
  · rw [List.getElem?_set_ne e]
def ofSt (i : Nat) (k o : OV) (ρ : Rho) : Out := match ρ.sl[i]? with
  | some (some c) => match setO c (fz k) o with
    | some c' => .next (ρ.set i (some c'))
    | none => .stk
  | _ => .stk
def sSetIx (i : Nat) (f fk : Rho → Re) (ρ : Rho) : Out := bindS (f ρ) fun o ρ1 => if (match ρ1.sl[i]? with | some (some _) => true | _ => false) = true then bindS (fk ρ1) fun k ρ2 => ofSt i k o ρ2 else .stk
section
variable {X : Cx} {W : WX} {e a b c : Expr} {es : List Expr} {f fa fb fk : Rho → Re} {fl : Rho → ReL} {p p2 pos apos cpos : Pos} {n m : Nat} {x : Str}
theorem es_setIx {i : Nat} (G : Good X W m) (hx : PE X a (tVar i)) (hk : EvE X W b fk) (he : EvE X W e f)
    (ha : ∀ v, assign (.Subscript a b p) X.env v = (do
      let ov ← holding [v] (eval a X.env)
      let iv ← holding [v, ov] (eval b X.env)
      standAt p
      holding [v, ov, iv] (setItem ov iv v)
      release [v, ov, iv] []) := by intro _; rfl)
    (hs : swapsWithSole [.Subscript a b p] e pos.line X.env = pure false := by rfl) (hw : swappedStores [.Subscript a b p] e X.env = pure none := by rfl)
    (h1 : (assignEach [.Subscript a b p] X.env).map (·.2) = [assign (.Subscript a b p) X.env] := by rfl) : EvS X W (.Assign [.Subscript a b p] e pos) (sSetIx i f fk) :=
  ps_w (ps_asg he (pg_sub hx hk (set_any (by have := G.hu; omega)) ha) hs hw h1) fun D σ H ⟨Hf, ρ, F, s, hh⟩ => by
    refine ⟨Hf, [], ρ, F, s, PostE.bindS hh fun o ρ1 w H1 Hf1 sm1 s1 h1 => ?_⟩
    cases q0 : ρ1.sl[i]? with
    | none => simp [q0] at h1; exact h1.elim
    | some y0 =>
      cases y0 with
      | none => simp [q0] at h1; exact h1.elim
      | some c0 =>
        simp only [q0] at h1
        rw [if_pos trivial] at h1
        obtain ⟨v, hv, _, _⟩ := s1.take q0
        refine ⟨v, hv, Hf1, [(w, o)], ρ1, F, s1, PostE.bindS h1 fun k ρ2 y H2 Hf2 sm2 s2 h2 => ?_⟩
        unfold ofSt at h2
        cases q : ρ2.sl[i]? with
        | none => simp only [q] at h2; exact h2.elim
        | some y1 =>
          cases y1 with
          | none => simp only [q] at h2; exact h2.elim
          | some cc =>
            simp only [q] at h2
            cases q3 : setO cc (fz k) o with
            | none => simp only [q3] at h2; exact h2.elim
            | some c' =>
              simp only [q3] at h2
              obtain ⟨v', hv', s3, _⟩ := s2.take q
              rw [hv] at hv'
              obtain rfl : v = v' := by injection hv' with z; injection z
              have r : Rp X.K (_ : Hg) y (fz k) := s2.rdH
              obtain ⟨its, F2, s4, bk⟩ := s3.ex2
              have s5 : SX X.K Hf2 ((v, cc) :: (w, o) :: its) F2 H2 := SX.drop (s4.perm (List.Perm.swap _ _ _))
              refine SX.setO (its := its) s5 r q3 fun H' s6 => ?_
              refine h2 σ H' Hf2 (Same.refl _) ?_
              have := SI.put' (T := []) i (bk [_] _ _ (Same.refl _) s6)
              rw [set_same hv] at this
              simpa using this
def subO (c : OV) (k : PyData) : Option OV := match c with
  | .lst os => match k with
    | .int j => (ixN os.length j).bind fun j => os[j]?
    | _ => none
  | .dk kvs => match asDK k with
    | some (.inl q) => (kvs.find? fun p => decide (p.1 = q)).map (·.2)
    | _ => none
  | .dt kvs => match asDK k with
    | some (.inr q) => if fineK (.inr q) = true then (kvs.find? fun p => decide (p.1 = q)).map (·.2) else none
    | _ => none
  | .sh _ => none
  | .tup os => match k with
    | .int j => (ixN os.length j).bind fun j => os[j]?
    | _ => none
def putO (c : OV) (k : PyData) (o : OV) : OV := match c with
  | .lst os => match k with
    | .int j => match ixN os.length j with
      | some j => .lst (os.set j o)
      | none => c
    | _ => c
  | .dk kvs => match asDK k with
    | some (.inl q) => .dk (putG kvs q o)
    | _ => c
  | .dt kvs => match asDK k with
    | some (.inr q) => .dt (putG kvs q o)
    | _ => c
  | .sh _ => c
  | .tup os => match k with
    | .int j => match ixN os.length j with
      | some j => .tup (os.set j o)
      | none => c
    | _ => c
end
theorem find_at {κ : Type} [DecidableEq κ] (k : κ) : ∀ {ks : List κ} {os : List OV} {o : OV}, ks.Nodup → ((ks.zip os).find? fun p => decide (p.1 = k)).map (·.2) = some o → ∃ j, ks[j]? = some k ∧ os[j]? = some o ∧ ∀ {β : Type} (ys : List β) (y : β), ys.length = os.length → putG (ks.zip ys) k y = ks.zip (ys.set j y) ∧ (ks.length = os.length → ((ks.zip ys).find? fun p => decide (p.1 = k)).map (·.2) = ys[j]?)
  | [], _, _, _, h => by simp at h
  | _ :: _, [], _, _, h => by simp at h
  | k' :: ks, o' :: os, o, n, h => by
    have n' := List.nodup_cons.mp n
    by_cases e : k' = k
    · subst e
      simp at h
      subst h
      refine ⟨0, rfl, rfl, fun ys y hl => ?_⟩
      cases ys with
      | nil => simp at hl
      | cons z ys => simp [putG]
    · rw [List.zip_cons_cons, List.find?_cons] at h
      simp only [decide_eq_false e] at h
      obtain ⟨j, h1, h2, h3⟩ := find_at k (ks := ks) (os := os) n'.2 h
      refine ⟨j + 1, by simpa using h1, by simpa using h2, fun ys y hl => ?_⟩
      cases ys with
      | nil => simp at hl
      | cons z ys =>
        obtain ⟨a1, a2⟩ := h3 ys y (by simpa using hl)
        refine ⟨by simp [putG, e, a1], fun hk => ?_⟩
        rw [List.zip_cons_cons, List.find?_cons]
        simp only [decide_eq_false e]
        rw [a2 (by simpa using hk)]
        simp
section
variable {K : PySem.W.Frag} {Hf : Hg} {H : Hp} {its : Its} {F : Fr} {v y : V} {c o : OV} {k : PyData}
theorem OwnL.split2 : ∀ {vs : List V} {os : List OV} {bs : Bs} {i : Nat} {o : OV}, OwnL K Hf vs os bs → os[i]? = some o →
    ∃ v b0 b1 b2, vs[i]? = some v ∧ bs = b0 ++ b1 ++ b2 ∧ Own K Hf v o b1 ∧ (∀ Hf' o' b', Ext Hf Hf' → Own K Hf' v o' b' → OwnL K Hf' vs (os.set i o') (b0 ++ b' ++ b2))
  | _, _, _, _, _, .nil, e => by simp at e
  | _, _, _, 0, _, .cons (b1 := b1) (b2 := b2) h r, e => by
    simp at e; subst e
    exact ⟨_, [], b1, b2, rfl, by simp, h, fun Hf' o' b' ex q => by simpa using OwnL.cons q (r.mono ex)⟩
  | _, _, _, i + 1, o, .cons (b1 := c1) (b2 := c2) h r, e => by
    obtain ⟨v, b0, b1, b2, e1, e2, q, f⟩ := OwnL.split2 (i := i) (o := o) r (by simpa using e)
    refine ⟨v, c1 ++ b0, b1, b2, by simpa using e1, by rw [e2]; simp, q, fun Hf' o' b' ex q' => ?_⟩
    have := OwnL.cons (h.mono ex) (f Hf' o' b' ex q')
    simpa using this
theorem SX.focusAt {a : Addr} {u : HO} {vs : List V} {os : List OV} {j : Nat} {G : OV → OV} {F0 : Fr}
    (s : ∃ b0 b2, OwnL K Hf vs os b0 ∧ OwnI K Hf its b2 ∧ ((((a, u) :: b0) ++ b2 ++ F0.b).map (·.1)).Nodup ∧ (∀ p ∈ ((a, u) :: b0) ++ b2 ++ F0.b, H p.1 = some p.2 ∧ Fre Hf p)) (e : Ext Hf (Hf.on H)) (mm : Hf.m = F0.m) (hj : os[j]? = some o)
    (mk : ∀ Hf' o' b', OwnL K Hf' vs (os.set j o') b' → Own K Hf' (.ref a) (G o') ((a, u) :: b')) :
    ∃ (w : V) (F1 : Bs), vs[j]? = some w ∧ SX K Hf ((w, o) :: its) (F1 ++ F0) H ∧ ∀ Hf' H' its' o' F', Same Hf Hf' → SX K Hf' ((w, o') :: its') (F1 ++ F') H' → SX K Hf' ((.ref a, G o') :: its') F' H' := by
  obtain ⟨b0, b2, hos, hits, n, al⟩ := s
  obtain ⟨w, c0, c1, c2, hw, rfl, ho, f⟩ := hos.split2 hj
  have z0 : ∀ d1 d2 F0 : Bs, ((a, u) :: (c0 ++ d1 ++ c2) ++ d2 ++ F0).Perm (d1 ++ d2 ++ ((a, u) :: (c0 ++ c2) ++ F0)) := fun d1 d2 F0 => by
    have z1 : ((a, u) :: (c0 ++ d1 ++ c2)).Perm (d1 ++ ((a, u) :: (c0 ++ c2))) := by
      refine List.Perm.trans ?_ List.perm_middle.symm
      refine List.Perm.cons _ ?_
      rw [List.append_assoc]
      exact List.perm_append_comm_assoc _ _ _
    have q1 : ((a, u) :: (c0 ++ d1 ++ c2) ++ d2).Perm (d1 ++ d2 ++ ((a, u) :: (c0 ++ c2))) := by
      refine (z1.append_right d2).trans ?_
      rw [List.append_assoc, List.append_assoc]
      exact List.Perm.append_left _ List.perm_append_comm
    have := q1.append_right F0
    simpa [List.append_assoc] using this
  refine ⟨w, (a, u) :: (c0 ++ c2), hw, ⟨⟨c1 ++ b2, .cons ho hits, nodup_perm (z0 c1 b2 F0.b) n, fun p hp => al p ((z0 c1 b2 F0.b).mem_iff.mpr hp)⟩, e, mm⟩, fun Hf' H' its' o' F' sm s' => ?_⟩
  obtain ⟨⟨bs', hI', n', al'⟩, e', mm'⟩ := s'
  cases hI' with
  | @cons _ _ _ d1 d2 ho' hits' =>
    exact ⟨⟨((a, u) :: (c0 ++ d1 ++ c2)) ++ d2, .cons (mk Hf' o' _ (f Hf' o' d1 (.of sm) ho')) hits', nodup_perm (z0 d1 d2 F'.b).symm n', fun p hp => al' p ((z0 d1 d2 F'.b).mem_iff.mp hp)⟩, e', mm'⟩
theorem SX.focus (s : SX K Hf ((v, c) :: its) F H) (r : Rp K (Hf.on H) y k) (h : subO c k = some o) :
    ∃ (w : V) (F1 : Bs), (∀ Q : VK, Q w H → rSub K v y H Q) ∧ SX K Hf ((w, o) :: its) (F1 ++ F) H ∧ ∀ Hf' H' its' o' F', Same Hf Hf' → SX K Hf' ((w, o') :: its') (F1 ++ F') H' → SX K Hf' ((v, putO c k o') :: its') F' H' := by
  obtain ⟨⟨bs, hI, n, al⟩, e, mm⟩ := s
  cases hI with
  | @cons _ _ _ b1 b2 hv hits =>
  unfold subO at h
  cases c with
  | sh d => cases h
  | tup os =>
    cases hv with
    | @tup a vs _ b0 hn hos =>
      cases k with
      | int i =>
        simp only at h
        obtain ⟨j, hj, ho⟩ := Option.bind_eq_some_iff.mp h
        obtain ⟨w, F1, hw, s1, back⟩ := SX.focusAt (G := fun o' => .tup (os.set j o')) ⟨b0, b2, hos, hits, n, al⟩ e mm ho (fun Hf' o' b' q => .tup (by rw [List.length_set]; exact hn) q)
        have ey := rp_int r
        subst ey
        refine ⟨w, F1, fun Q q => ?_, s1, fun Hf' H' its' o' F' sm s' => ?_⟩
        · refine .inl (.inr (.inl ⟨a, vs, i, w, rfl, rfl, SqT.of (al _ (List.mem_append_left _ (List.mem_append_left _ List.mem_cons_self))).1, ?_, q⟩))
          unfold atI
          rw [hos.len, hj]
          exact hw
        · have := back Hf' H' its' o' F' sm s'
          show SX K Hf' ((V.ref a, putO (.tup os) (.int i) o') :: its') F' H'
          unfold putO
          simp only [hj]
          exact this
      | _ => cases h
    | @tup3 a vs _ b0 its0 t3 hn hos =>
      cases k with
      | int i =>
        simp only at h
        obtain ⟨j, hj, ho⟩ := Option.bind_eq_some_iff.mp h
        obtain ⟨w, F1, hw, s1, back⟩ := SX.focusAt (G := fun o' => .tup (os.set j o')) ⟨b0, b2, hos, hits, n, al⟩ e mm ho (fun Hf' o' b' q => .tup3 t3 (by rw [List.length_set]; exact hn) q)
        have ey := rp_int r
        subst ey
        refine ⟨w, F1, fun Q q => ?_, s1, fun Hf' H' its' o' F' sm s' => ?_⟩
        · refine .inl (.inr (.inl ⟨a, vs, i, w, rfl, rfl, (.inl (.inr ⟨_, (al _ (List.mem_append_left _ (List.mem_append_left _ List.mem_cons_self))).1⟩)), ?_, q⟩))
          unfold atI
          rw [hos.len, hj]
          exact hw
        · have := back Hf' H' its' o' F' sm s'
          show SX K Hf' ((V.ref a, putO (.tup os) (.int i) o') :: its') F' H'
          unfold putO
          simp only [hj]
          exact this
      | _ => cases h
  | lst os =>
    cases hv with
    | @lst a vs _ b0 hos =>
    cases k with
    | int i =>
      simp only at h
      obtain ⟨j, hj, ho⟩ := Option.bind_eq_some_iff.mp h
      obtain ⟨w, F1, hw, s1, back⟩ := SX.focusAt (G := fun o' => .lst (os.set j o')) ⟨b0, b2, hos, hits, n, al⟩ e mm ho (fun Hf' o' b' q => .lst q)
      have ey := rp_int r
      subst ey
      refine ⟨w, F1, fun Q q => ?_, s1, fun Hf' H' its' o' F' sm s' => ?_⟩
      · refine .inl (.inl ⟨a, vs, i, w, rfl, rfl, SqL.of (al _ (List.mem_append_left _ (List.mem_append_left _ List.mem_cons_self))).1, ?_, q⟩)
        unfold atI
        rw [hos.len, hj]
        exact hw
      · have := back Hf' H' its' o' F' sm s'
        show SX K Hf' ((V.ref a, putO (.lst os) (.int i) o') :: its') F' H'
        unfold putO
        simp only [hj]
        exact this
    | _ => cases h
  | dk kvs =>
    cases hv with
    | @dk a ks vs os b0 l nd hos =>
    simp only at h
    split at h
    · rename_i key hk
      obtain ⟨j, hj1, hj2, hf⟩ := find_at key nd h
      have ek := asDK_inl hk
      subst ek
      have ey := rp_key r
      subst ey
      obtain ⟨w, F1, hw, s1, back⟩ := SX.focusAt (G := fun o' => .dk (ks.zip (os.set j o'))) ⟨b0, b2, hos, hits, n, al⟩ e mm hj2 (fun Hf' o' b' q => .dk l nd q)
      refine ⟨w, F1, fun Q q => ?_, s1, fun Hf' H' its' o' F' sm s' => ?_⟩
      · refine .inr ⟨a, w, rfl, .inl ⟨_, key, .inl (al _ (List.mem_append_left _ (List.mem_append_left _ List.mem_cons_self))).1, rfl, ?_⟩, q⟩
        have := (hf vs w (by rw [hos.len])).2 (by rw [l, hos.len])
        unfold valV
        rw [this, hw]
      · have := back Hf' H' its' o' F' sm s'
        show SX K Hf' ((V.ref a, putO (.dk (ks.zip os)) (kD key) o') :: its') F' H'
        unfold putO
        simp only [asDK_kD]
        rw [(hf os o' rfl).1]
        exact this
    · cases h
  | dt kvs =>
    cases hv with
    | @dt a ks vs os b0 l nd hos =>
    simp only at h
    split at h
    · rename_i key hk
      split at h
      · rename_i hfine
        obtain ⟨j, hj1, hj2, hf⟩ := find_at key nd h
        have ek := asDK_inr hk
        subst ek
        obtain ⟨b, rfl, hb⟩ := rp_keyT r hfine
        obtain ⟨w, F1, hw, s1, back⟩ := SX.focusAt (G := fun o' => .dt (ks.zip (os.set j o'))) ⟨b0, b2, hos, hits, n, al⟩ e mm hj2 (fun Hf' o' b' q => .dt l nd q)
        refine ⟨w, F1, fun Q q => ?_, s1, fun Hf' H' its' o' F' sm s' => ?_⟩
        · refine .inr ⟨a, w, rfl, .inr ⟨_, key, b, .inl (al _ (List.mem_append_left _ (List.mem_append_left _ List.mem_cons_self))).1, rfl, hb, ?_⟩, q⟩
          have := (hf vs w (by rw [hos.len])).2 (by rw [l, hos.len])
          unfold valV
          rw [this, hw]
        · have := back Hf' H' its' o' F' sm s'
          show SX K Hf' ((V.ref a, putO (.dt (ks.zip os)) (ktD key) o') :: its') F' H'
          unfold putO
          simp only [asDK_ktD]
          rw [(hf os o' rfl).1]
          exact this
      · cases h
    · cases h
theorem SI.focus {T : Its} {ρ : Rho} {F : Bs} {σ : St} (s : SI K Hf ((v, c) :: T) ρ F σ H) (r : Rp K (Hf.on H) y k) (h : subO c k = some o) :
    ∃ (w : V) (F1 : Bs), (∀ Q : VK, Q w H → rSub K v y H Q) ∧ SI K Hf ((w, o) :: T) ρ (F1 ++ F) σ H ∧ ∀ Hf' H' T' ρ' σ' o', Same Hf Hf' → SI K Hf' ((w, o') :: T') ρ' (F1 ++ F) σ' H' → SI K Hf' ((v, putO c k o') :: T') ρ' F σ' H' := by
  obtain ⟨its, sb, hs, t, s1⟩ := s.ex
  obtain ⟨w, F1, rd, s2, back⟩ := SX.focus (its := T ++ its) s1 r h
  refine ⟨w, F1, rd, ⟨its, sb, hs, t, ?_⟩, fun Hf' H' T' ρ' σ' o' sm s' => ?_⟩
  · have s2 : SX K Hf ((w, o) :: (T ++ its)) (fr (F1 ++ (sb ++ F)) Hf.m) H := s2
    exact s2.frPerm (List.perm_append_comm_assoc _ _ _)
  · obtain ⟨its', sb', hs', t', s3⟩ := s'.ex
    refine ⟨its', sb', hs', t', ?_⟩
    have s3 : SX K Hf' ((w, o') :: (T' ++ its')) (fr (sb' ++ (F1 ++ F)) Hf'.m) H' := s3
    exact back Hf' H' (T' ++ its') o' (fr (sb' ++ F) Hf'.m) sm (s3.frPerm (List.perm_append_comm_assoc _ _ _))
end
def isOv (ρ : Rho) (i : Nat) : Bool := match ρ.sl[i]? with
  | some (some _) => true
  | _ => false
theorem isOv_iff {ρ : Rho} {i : Nat} (h : isOv ρ i = true) : ∃ o, ρ.sl[i]? = some (some o) := by
  unfold isOv at h
  split at h
  · exact ⟨_, by assumption⟩
  · cases h
section
variable {X : Cx} {W : WX} {e a b c : Expr} {es : List Expr} {f fa fb fk : Rho → Re} {fl : Rho → ReL} {p p2 pos apos cpos : Pos} {n m : Nat} {x : Str} {name : Str} {T id : String} {r : V → List V → Hp → VK → Prop} {g : OV → List OV → Option (OV × OV)}
end
section
variable {X : Cx} {W : WX} {e a b c : Expr} {es : List Expr} {t : TA} {p p2 pos kp : Pos} {n m : Nat}
end
section
variable {X : Cx} {W : WX} {e a b c : Expr} {es : List Expr} {f fa fb fk : Rho → Re} {fl : Rho → ReL} {pos apos cpos p : Pos} {n m k : Nat} {x : Str} {name : Str} {T id : String} {r : V → List V → Hp → VK → Prop} {g : OV → List OV → Option (OV × OV)}
theorem ev_mt {i : Nat} (ho : OpM X.K r g) (hT : T ≠ "") (hp : PE X (.Call (.Attribute b name apos) (e :: es) [] cpos) (tBM X.K T r (tVar i) (tL X W fl))) : EvE X W (.Call (.Attribute b name apos) (e :: es) [] cpos) (eMut i T g fl) := pe_w hp fun σ H Q ⟨Hf, T', ρ, F, s, h⟩ => by
  unfold eMut at h
  cases q : ρ.sl[i]? with
  | none => rw [q] at h; exact h.elim
  | some y =>
    cases y with
    | none => rw [q] at h; exact h.elim
    | some o =>
      simp only [q] at h
      by_cases ht : ownT o = T
      · rw [if_pos ht] at h
        obtain ⟨v, hv, s1, _⟩ := s.take q
        obtain ⟨its, F2, s2, bk⟩ := s1.ex2
        refine ⟨v, hv, ?_, Hf, T', ρ, F, s, PostL.bind h fun os ρ1 vs H1 Hf1 l sm s3 h1 => mut_post ho hv l s3 h1⟩
        have := tyV_own (its := T' ++ its) s2 (by rw [ht]; exact hT)
        rw [ht] at this
        exact this
      · rw [if_neg ht] at h; exact h.elim
theorem ixAll (G : Good X W n) : IxR X (rSub X.K) := ix_seq.or (ix_dict (by have := G.hu; omega))
end
abbrev eSub := eBin (gII (fun _ _ => true) fun i j => .int (i - j))
abbrev eMul := eBin (gII mulOk fun i j => .int (i * j))
abbrev eMod := eBin (gII (fun _ j => decide (0 < j)) fun i j => .int (i % j))
abbrev eFdiv := eBin (gII divOk fun i j => .int (i / j))
abbrev ePow := eBin (gII powOk fun i j => .int (i ^ j.toNat))
abbrev eNeg := eUn (gI fun i => .int (-i))
section
variable {P : Program} {w : World} {K : PySem.W.Frag} {mg : Str → Option Value} {base : Heap} {x qual : Str} {ag : Arguments} {bd : List Stmt} {sco : Scope} {f : Addr} {fd : FuncData}
theorem fnOk_of {N ps : List Str} {k n : Nat} {g : Rho → Out} (F : FunD K x qual ag bd sco [] [] f fd) (S : FnScope N ps sco) (hn : ps.length = n)
    (der : ∀ (cdv : Value) (A : Around) (outer : List Env) (s : Shared) (H : Hp) (E : XK), Good (cxOf (L2.CX P w) P w K mg base N qual sco f cdv A outer s H E) (fun cls d _ H => E cls d H) k →
      EvB (cxOf (L2.CX P w) P w K mg base N qual sco f cdv A outer s H E) (fun cls d _ H => E cls d H) bd g) :
    FnOk P w K mg base (L2.CX P w) (k + 1) f fd ps (spP K mg n (runP N.length g)) := by
  refine F.ok S (fun vs H Q E h => ?_) fun cdv A outer s H vs Q E hr h => ?_
  · obtain ⟨_, _, _, _, _, l, _⟩ := h
    exact l.trans hn.symm
  · obtain ⟨Hf, ds, st, sb, Fr, l, r, t, sx, h⟩ := h
    have gd := der cdv A outer s H E ⟨S.nd, rfl, takes_of rfl rfl rfl rfl, passes_of rfl, hr⟩
    have sl := slots_start (N.length - ds.length) r.len
    refine ⟨_, gd, Hf, ⟨ds.map (fun d => some (.sh d)) ++ List.replicate (N.length - ds.length) none, st⟩, Fr, ⟨vs.zip (ds.map .sh), sb, ?_, t, sx.addAll r⟩, ?_⟩
    · unfold L2.start
      rw [r.len]
      exact sl
    · unfold runP at h
      exact post_out h
theorem fnD_of {N ps : List Str} {k n : Nat} {g : Rho → Out} (F : FunD K x qual ag bd sco [] [] f fd) (S : FnScope N ps sco) (hm : mg x = some (.ref f)) (hb : Binds K fd ps []) (hn : ps.length = n)
    (der : ∀ (cdv : Value) (A : Around) (outer : List Env) (s : Shared) (H : Hp) (E : XK), Good (cxOf (L2.CX P w) P w K mg base N qual sco f cdv A outer s H E) (fun cls d _ H => E cls d H) k →
      EvB (cxOf (L2.CX P w) P w K mg base N qual sco f cdv A outer s H E) (fun cls d _ H => E cls d H) bd g) :
    FnT P w K mg base x (k + 1) n (runP N.length g) := ⟨f, fd, ps, hm, F.kp, hb, fnOk_of F S hn der⟩
def scOk (ns : List Int) : Prop := ns.length ≤ 63 ∧ ∀ z ∈ ns, Builtin.Int.intBits z ≤ 1048576
def spTrue (K : PySem.W.Frag) : Sp := fun vs H Q _ => ∃ (a : Addr) (ns : List Int), scOk ns ∧ vs = [.ref a] ∧ SqL K H a (ns.map V.int) ∧ (∀ H', Q (.bl true) H')
theorem law_of {k : Nat} {g : List PyData → List SO → Rv} (hg : ∀ ns : List Int, scOk ns → ∃ st, g [.list (ns.map .int)] [] = .ok (.sh (.bool true)) st) (F : FnOk P w K mg base (L2.CX P w) k f fd [x] (spP K mg 1 g)) :
    FnOk P w K mg base (L2.CX P w) k f fd [x] (spTrue K) := F.imp fun vs H Q E h => by
  obtain ⟨a, ns, hn, rfl, hs, q⟩ := h
  obtain ⟨st, hg⟩ := hg ns hn
  refine ⟨⟨H, []⟩, [.list (ns.map .int)], [], [], [], rfl, .cons (.lst hs (RpAll.ints ns)) .nil, .nil, SX.nil (Hf := ⟨H, []⟩) (Ext.refl _), ?_⟩
  rw [hg]
  intro v H' Hf' sb sm _ s
  have e := s.rp
  cases e
  exact q H'
end
theorem walkE {l : PySem.W.OpenLaw} {k : Nat} {q : Program} {loose : List Str} {XP : (Str → Option Value) → Heap → Prop} {YP : World → Heap → Prop} {d : DefRec}
    (hr : Room k callerA) (hn : l.most = some 63) (hdf : d.params.defaults = [])
    (F : ∀ (w : World) (mg : Str → Option Value) (fa : Addr) (h : Heap), YP w h → mg d.name = some (.ref fa) → h.Ns mainGlobals mg →
      ∃ (K : PySem.W.Frag) (fd : FuncData), K.In h ∧ (∀ (s : Shared) (u : Value), BindsTo s fd ⟨[u], []⟩ [("script", u)]) ∧
        ∀ base : Heap, K.In base → base.Ns mainGlobals mg → FnOk l.prog w K mg base (L2.CX l.prog w) k fa fd ["script"] (spTrue K)) :
    PySem.W.WalkO q loose XP YP l.row.toRowW d [] (fun f vs => PySem.call f vs) := by
  refine Att.attach_callB hn hdf ?_
  intro w _ s1 mg _ fa _ _ _ _ a _ ns G Y _ _ _ hmg hobj hints hlen hbits hg
  obtain ⟨K, fd, hK, hb, hF⟩ := F w mg fa _ Y hmg G.T.g
  have h63 : ns.length ≤ sizeLine := Nat.le_trans hlen (by decide)
  refine law_call hK G.T.g G.T.b G.T.builtins G.T.nolimit hg hobj hints h63 hr hF hb ?_ ?_
  · exact fun H _ hS => ⟨a, ns, ⟨hlen, hbits⟩, rfl, hS, fun _ => rfl⟩
  · intro H e s' z
    obtain ⟨_, _, _, _, _, _, _, _, _, _, _, _, z⟩ := z
    exact z
section
variable {ρ ρ1 ρ2 : Rho} {f fa fb fc : Rho → Re} {g g' : OV → OV → Option OV} {o : OV} {i j : Int} {d e : PyData}
theorem gAdd_int : gAdd (.sh (.int i)) (.sh (.int j)) = some (.sh (.int (i + j))) := rfl
theorem gII_int {C : Int → Int → Bool} {h : Int → Int → PyData} : gII C h (.sh (.int i)) (.sh (.int j)) = if C i j = true then some (.sh (h i j)) else none := rfl
theorem gII_ok {C : Int → Int → Bool} {h : Int → Int → PyData} (hc : C i j = true) : gII C h (.sh (.int i)) (.sh (.int j)) = some (.sh (h i j)) := by rw [gII_int, if_pos hc]
theorem gI_int {h : Int → PyData} : gI h (.sh (.int i)) = some (.sh (h i)) := rfl
theorem gOrd_int {fi : Int → Int → Bool} {fd : PyData → PyData → Bool} : gOrd fi fd (.sh (.int i)) (.sh (.int j)) = some (.sh (.bool (fi i j))) := rfl
theorem shaped_int : SeqAt.shaped (.int i) = true := by simp [SeqAt.shaped, PyData.canLay0, PyData.depth]
theorem shaped_str {x : Str} : SeqAt.shaped (.str x) = PyData.strOk x := by simp [SeqAt.shaped, PyData.canLay0, PyData.depth]
theorem shaped_bool {x : Bool} : SeqAt.shaped (.bool x) = true := by simp [SeqAt.shaped, PyData.canLay0, PyData.depth]
theorem eqv_int : PyData.eqv (.int i) (.int j) = decide (i = j) := by rw [PyData.eqv]; rfl
theorem eqv_str {x y : Str} : PyData.eqv (.str x) (.str y) = decide (x = y) := by rw [PyData.eqv]; rfl
theorem gEq_int {neg : Bool} : gEq neg (.sh (.int i)) (.sh (.int j)) = some (.sh (.bool (neg ^^ decide (i = j)))) := by simp [gEq, fz, shaped_int, eqv_int]
theorem gEq_str {neg : Bool} {x y : Str} (hx : PyData.strOk x = true) (hy : PyData.strOk y = true) : gEq neg (.sh (.str x)) (.sh (.str y)) = some (.sh (.bool (neg ^^ decide (x = y)))) := by simp [gEq, fz, shaped_str, eqv_str, hx, hy]
theorem mulOk_l (h : -(2 ^ 64) < i ∧ i < 2 ^ 64) : mulOk i j = true := by unfold mulOk; rw [decide_eq_true h]; rfl
theorem mulOk_r (h : -(2 ^ 64) < j ∧ j < 2 ^ 64) : mulOk i j = true := by unfold mulOk; rw [decide_eq_true h]; simp
theorem log2_lt {n m : Nat} (h : n < 2 ^ m) (hm : 0 < m) : n.log2 < m := by
  by_cases e : n = 0
  · subst e; simpa using hm
  · exact (Nat.log2_lt e).mpr h
theorem mulOk_n {n m : Nat} (h1 : i.natAbs < 2 ^ n) (h2 : j.natAbs < 2 ^ m) (hn : 0 < n) (hm : 0 < m) (hs : n + m < 1000000) : mulOk i j = true := by
  unfold mulOk
  have a := log2_lt h1 hn
  have b := log2_lt h2 hm
  have : decide (i.natAbs.log2 + j.natAbs.log2 < 1000000) = true := decide_eq_true (by omega)
  rw [this, Bool.or_true]
theorem powOk_n {n : Nat} {k : Nat} (h1 : i.natAbs < 2 ^ n) (hs : n * k ≤ 2 ^ 27) : powOk i (k : Nat) = true := by
  unfold powOk
  have a : Builtin.Int.intBits i ≤ n := PySem.intBits_le_iff.mpr h1
  have b : Builtin.Int.intBits i * k ≤ n * k := Nat.mul_le_mul_right k a
  rw [Bool.and_eq_true]
  refine ⟨decide_eq_true (by omega), decide_eq_true ?_⟩
  have : ((Builtin.Int.intBits i * k : Nat) : Int) ≤ ((2 ^ 27 : Nat) : Int) := by exact_mod_cast Nat.le_trans b hs
  simpa using this
theorem divOk_n {n : Nat} (h0 : 0 < j) (h1 : j.natAbs < 2 ^ n) (hn : 0 < n) (hs : n ≤ 9000) : divOk i j = true := by
  unfold divOk
  have := log2_lt h1 hn
  rw [decide_eq_true h0, decide_eq_true (by omega : j.natAbs.log2 < 9000)]; rfl
end
theorem rngOk_of {i : Int} (h : -1000000000 ≤ i) (h2 : i ≤ 1000000000) : rngOk i = true := by
  unfold rngOk
  have a : (2 : Int) ^ 62 = 4611686018427387904 := by decide
  rw [a]
  exact decide_eq_true (by omega)
theorem sz_le {n : Nat} (h : n ≤ 63) : (n ≤ sizeLine) = True := eq_true (Nat.le_trans h (by decide))
theorem sz_lt {n : Nat} (h : n ≤ 63) : (n < sizeLine) = True := eq_true (Nat.lt_of_le_of_lt h (by decide))
theorem nrfl {α : Type} {a b : α} (h : a = b) : a = b := by
  cases h
  exact Eq.symm (Eq.refl a)
section
variable {ρ ρ1 ρ2 : Rho} {o : OV} {os : List OV} {b : Bool} {x : Exn} {ds : List PyData}
theorem gNot_b : gNot (.sh (.bool b)) = some (.sh (.bool (!b))) := nrfl rfl
theorem ownT_lst : ownT (.lst os) = "list" := nrfl rfl
theorem mApp_ok (h : os.length < sizeLine) : mApp (.lst os) [o] = some (.lst (os ++ [o]), .sh .none) := by
  simp only [mApp]
  rw [if_pos h]
theorem dLen_list : dLen (.list ds) = some (.sh (.int ds.length)) := nrfl rfl
theorem dLen_tup : dLen (.tuple ds) = some (.sh (.int ds.length)) := nrfl rfl
theorem gSub_list {i : Int} : gSub (.sh (.list ds)) (.sh (.int i)) = (atI ds i).map .sh := by rw [gSub, fz, fz]
theorem gSub_tup {i : Int} : gSub (.sh (.tuple ds)) (.sh (.int i)) = (atI ds i).map .sh := by rw [gSub, fz, fz]
theorem ixN_of {n j : Nat} (h : j < n) : ixN n (j : Int) = some j := by
  have a : (0 : Int) ≤ j := by omega
  have b : (j : Int) < n := by omega
  unfold ixN
  rw [if_pos a, if_pos b, Int.toNat_natCast]
theorem fz_lst {xs : List OV} : fz (.lst xs) = .list (xs.map fz) := by rw [fz, fzs_eq]
theorem map_sh_fz {ds : List PyData} : (ds.map OV.sh).map fz = ds := by
  rw [List.map_map]
  conv => rhs; rw [← List.map_id ds]
  refine List.map_congr_left fun d _ => ?_
  show fz (.sh d) = d
  rw [fz]
theorem gSub_lst {xs : List OV} {i : Int} : gSub (.lst xs) (.sh (.int i)) = (atI (xs.map fz) i).map .sh := by rw [gSub, fz_lst, fz]
theorem gMax_two {two : Int → Int → Int} {many : List Int → Int} {i j : Int} : gMax two many [.sh (.int i), .sh (.int j)] = some (.sh (.int (two i j))) := by
  unfold gMax
  simp only [fz]
theorem fz_sh {d : PyData} : fz (.sh d) = d := by rw [fz]
end
section
variable {α : Type} {a b c d e f g : α} {xs : List α}
theorem atI_l0 : atI (a :: xs) 0 = some a := atI_nat (j := 0) rfl
theorem atI_l1 : atI (a :: b :: xs) 1 = some b := atI_nat (j := 1) rfl
theorem atI_l2 : atI (a :: b :: c :: xs) 2 = some c := atI_nat (j := 2) rfl
theorem atI_l3 : atI (a :: b :: c :: d :: xs) 3 = some d := atI_nat (j := 3) rfl
theorem atI_l4 : atI (a :: b :: c :: d :: e :: xs) 4 = some e := atI_nat (j := 4) rfl
theorem atI_l5 : atI (a :: b :: c :: d :: e :: f :: xs) 5 = some f := atI_nat (j := 5) rfl
theorem atI_l6 : atI (a :: b :: c :: d :: e :: f :: g :: xs) 6 = some g := atI_nat (j := 6) rfl
end
def stirN (cell k : Int) : Int := ((cell % 10 ^ 60 + 7919 * k + 1) * 27182818284590452353602874713527) % 170141183460469231731687303715884105727
def stir (cell k : Int) : Int := ((stirN cell k) ^ 5 + 48271 * k) ^ 3 % 162259276829213363391578010288127 / 7
def Drawn (xs sizes : List Int) : Prop := xs.length = sizes.length ∧ ∀ (k : Nat) (x s : Int), xs[k]? = some x → sizes[k]? = some s → 0 ≤ x ∧ x < s
theorem cutD_map {α β : Type} (f : α → β) (xs : List α) (lo hi : Option Int) : cutD (xs.map f) lo hi = (cutD xs lo hi).map f := by
  unfold cutD
  rw [List.length_map, List.map_take, List.map_drop]
theorem cutD_len {α : Type} (xs : List α) (lo hi : Option Int) : (cutD xs lo hi).length ≤ xs.length := by
  unfold cutD
  rw [List.length_take, List.length_drop]
  omega
theorem gAdd_lst {xs ys : List OV} (h : xs.length + ys.length ≤ sizeLine) : gAdd (.lst xs) (.lst ys) = some (.lst ((xs.map fz ++ ys.map fz).map .sh)) := by
  unfold gAdd
  rw [fz_lst, fz_lst]
  simp only [List.length_map, h, if_true]
def blV (b : Bool) : OV → Bool
  | .sh (.bool c) => c == b
  | _ => false
def rIsB (neg : Bool) : R2 := fun x y H Q => ∃ b, y = .bl b ∧ Q (.bl (neg ^^ decide (x = .bl b))) H
section
variable {X : Cx} {W : WX} {e a b c : Expr} {es : List Expr} {f fa fb fk : Rho → Re} {fl : Rho → ReL} {pos apos cpos p : Pos} {n m k : Nat} {x : Str}
theorem is_bl {x : V} {v : Value} {b : Bool} (rx : RelV x v) : plainIs v (.bool b) = true ∧ (v == Value.bool b) = decide (x = .bl b) := by
  cases x with
  | bl c => cases rx; exact ⟨rfl, by cases b <;> cases c <;> rfl⟩
  | non => cases rx; exact ⟨rfl, rfl⟩
  | ref a => cases rx; exact ⟨rfl, rfl⟩
  | ty n => cases rx; exact ⟨rfl, rfl⟩
  | int i => obtain ⟨t, rfl⟩ := rx; exact ⟨rfl, rfl⟩
  | str i => obtain ⟨t, rfl⟩ := rx; exact ⟨rfl, rfl⟩
  | byt i => obtain ⟨t, rfl⟩ := rx; exact ⟨rfl, rfl⟩
  | flt i => obtain ⟨t, rfl⟩ := rx; exact ⟨rfl, rfl⟩
theorem op_isntB : OpR X (compareOp .IsNot) (rIsB true) := by
  intro pins s σ H x y v u Q I rx ry ⟨b, ey, q⟩
  subst ey
  cases ry
  obtain ⟨h1, h2⟩ := is_bl (b := b) rx
  show wpAny _ _ ((isSame v (Value.bool b)) >>= fun z => pure (Value.bool (!z))) _ _ s
  exact wpAny_bind (PySem.wpAny_isSame_plain h1 (wpAny_pure (fin_bl I q (by rw [h2, Bool.true_xor]))))
def gIsB (neg : Bool) (a b : OV) : Option OV := match b with
  | .sh (.bool c) => some (.sh (.bool (neg ^^ blV c a)))
  | _ => none
theorem op2_isB {K : PySem.W.Frag} {neg : Bool} : Op2 K (rIsB neg) (gIsB neg) := by
  intro Hf its F H x y a b c Q s h q
  unfold gIsB at h
  split at h
  · rename_i c0
    cases h
    have e := rp_bl s.rp
    subst e
    obtain ⟨bs, ho⟩ := SX.own s.drop
    have e2 : decide (x = .bl c0) = blV c0 a := by
      cases ho with
      | sh r =>
        cases r <;> first
          | rfl
          | (rename_i z; cases z <;> cases c0 <;> rfl)
      | lst _ => rfl
      | dk _ _ _ => rfl
      | dt _ _ _ => rfl
      | tup _ _ => rfl
      | tup3 _ _ _ => rfl
    refine ⟨c0, rfl, q _ _ _ (Same.refl _) (s.drop.drop.add ?_)⟩
    rw [e2]; exact .bl _
  · cases h
theorem ec_isntB (ha : EvE X W a fa) (hb : EvE X W b fb) : EvC X W .IsNot a b (eBin (gIsB true) fa fb) := ec_op op_isntB op2_isB ha hb
def OpP (K : PySem.W.Frag) (r : R2) (g : PyData → PyData → Option PyData) : Prop :=
  ∀ (H : Hg) (x y : V) (d e c : PyData) (Q : VK), Rp K H x d → Rp K H y e → g d e = some c → (∀ v, (∀ H', Rp K H' v c) → Q v H.h) → r x y H.h Q
def ofP (o : Option PyData) (ρ : Rho) : Re := match o with
  | some c => .ok (.sh c) ρ
  | none => .stk
end
section
variable {X : Cx} {W : WX} {e a b c : Expr} {es elts : List Expr} {f fa fb fk : Rho → Re} {fl : Rho → ReL} {pos apos cpos tpos p : Pos} {n m k kk : Nat} {x : Str}
def enumD (i : Nat) : List PyData → List PyData
  | [] => []
  | d :: ds => .tuple [.int (i : Nat), d] :: enumD (i + 1) ds
theorem enumD_len : ∀ (i : Nat) (ds : List PyData), (enumD i ds).length = ds.length
  | _, [] => rfl
  | i, d :: ds => congrArg (· + 1) (enumD_len (i + 1) ds)
theorem enumD_get : ∀ (i : Nat) (ds : List PyData) (k : Nat) (d : PyData), ds[k]? = some d → (enumD i ds)[k]? = some (.tuple [.int ((i + k : Nat) : Int), d])
  | _, [], _, _, h => by simp at h
  | i, d :: ds, 0, _, h => by simp at h; subst h; rfl
  | i, d :: ds, k + 1, d', h => by
    have := enumD_get (i + 1) ds k d' (by simpa using h)
    have e : i + 1 + k = i + (k + 1) := by omega
    rw [e] at this
    exact this
theorem walkD_enum {K : PySem.W.Frag} {Hf : Hg} {a : Addr} {xs : List V} {ds : List PyData} (h : SqL K Hf.h a xs) (r : RpAll K Hf xs ds) : WalkD K Hf (Ite K a) (enumD 0 ds) := by
  refine ⟨fun i H hi e => ?_, fun H e => ⟨xs, e.sqL h, by rw [enumD_len, r.len]; exact Nat.le_refl _⟩, fun i H y H' hi e q => ?_⟩
  · rw [enumD_len] at hi
    obtain ⟨v, h1, _⟩ := r.get (List.getElem?_eq_getElem hi)
    exact ⟨xs, v, e.sqL h, h1⟩
  · obtain ⟨T, x, rfl, hT, rfl, fx⟩ := q
    obtain ⟨d, hd, rd⟩ := r.get' (fx xs (e.sqL h))
    refine ⟨_, enumD_get 0 ds i d hd, .inr (.inl ⟨T, _, _, rfl, hT, rfl, .cons ?_ (.cons rd .nil), rfl⟩)⟩
    rw [Nat.zero_add]
    exact .int _
def pairD : List PyData → List PyData → List PyData
  | x :: xs, y :: ys => .tuple [x, y] :: pairD xs ys
  | _, _ => []
theorem pairD_len : ∀ (xs ys : List PyData), (pairD xs ys).length = min xs.length ys.length
  | [], _ => by simp [pairD]
  | _ :: _, [] => by simp [pairD]
  | x :: xs, y :: ys => by simp [pairD, pairD_len xs ys, Nat.succ_min_succ]
theorem pairD_get : ∀ (xs ys : List PyData) (k : Nat) (x y : PyData), xs[k]? = some x → ys[k]? = some y → (pairD xs ys)[k]? = some (.tuple [x, y])
  | [], _, _, _, _, h, _ => by simp at h
  | _ :: _, [], _, _, _, _, h => by simp at h
  | a :: xs, b :: ys, 0, _, _, h, h2 => by simp at h h2; subst h h2; rfl
  | a :: xs, b :: ys, k + 1, x, y, h, h2 => pairD_get xs ys k x y (by simpa using h) (by simpa using h2)
theorem walkD_zip {K : PySem.W.Frag} {Hf : Hg} {a b : Addr} {xs ys : List V} {ds es : List PyData} (h : SqL K Hf.h a xs) (h2 : SqL K Hf.h b ys) (r : RpAll K Hf xs ds) (r2 : RpAll K Hf ys es) : WalkD K Hf (Itz K a b) (pairD ds es) := by
  refine ⟨fun i H hi e => ?_, fun H e => ⟨xs, ys, e.sqL h, e.sqL h2, by rw [pairD_len, r.len, r2.len]; omega⟩, fun i H y H' hi e q => ?_⟩
  · rw [pairD_len] at hi
    obtain ⟨v, h1, _⟩ := r.get (List.getElem?_eq_getElem (by omega : i < ds.length))
    obtain ⟨w, h3, _⟩ := r2.get (List.getElem?_eq_getElem (by omega : i < es.length))
    exact ⟨xs, ys, v, w, e.sqL h, e.sqL h2, h1, h3⟩
  · obtain ⟨T, x, z, rfl, hT, rfl, fx, fy⟩ := q
    obtain ⟨d, hd, rd⟩ := r.get' (fx xs (e.sqL h))
    obtain ⟨d2, hd2, rd2⟩ := r2.get' (fy ys (e.sqL h2))
    exact ⟨_, pairD_get ds es i d d2 hd hd2, .inr (.inl ⟨T, _, _, rfl, hT, rfl, .cons rd (.cons rd2 .nil), rfl⟩)⟩
theorem walkD_zipT {K : PySem.W.Frag} {Hf : Hg} {a b : Addr} {xs ys : List V} {ds es : List PyData} (h : SqT K Hf.h a xs) (h2 : SqT K Hf.h b ys) (r : RpAll K Hf xs ds) (r2 : RpAll K Hf ys es) : WalkD K Hf (RZ.ItzT K a b) (pairD ds es) := by
  refine ⟨fun i H hi e => ?_, fun H e => ⟨xs, ys, e.sqT h, e.sqT h2, by rw [pairD_len, r.len, r2.len]; omega⟩, fun i H y H' hi e q => ?_⟩
  · rw [pairD_len] at hi
    obtain ⟨v, h1, _⟩ := r.get (List.getElem?_eq_getElem (by omega : i < ds.length))
    obtain ⟨w, h3, _⟩ := r2.get (List.getElem?_eq_getElem (by omega : i < es.length))
    exact ⟨xs, ys, v, w, e.sqT h, e.sqT h2, h1, h3⟩
  · obtain ⟨T, x, z, rfl, hT, rfl, fx, fy⟩ := q
    obtain ⟨d, hd, rd⟩ := r.get' (fx xs (e.sqT h))
    obtain ⟨d2, hd2, rd2⟩ := r2.get' (fy ys (e.sqT h2))
    exact ⟨_, pairD_get ds es i d d2 hd hd2, .inr (.inl ⟨T, _, _, rfl, hT, rfl, .cons rd (.cons rd2 .nil), rfl⟩)⟩
def iZip (fl : Rho → ReL) (ρ : Rho) : ReI := match fl ρ with
  | .ok [o, o2] ρ1 => match fz o, fz o2 with
    | .list ds, .list es => .ok (pairD ds es) ρ1
    | .tuple ds, .tuple es => .ok (pairD ds es) ρ1
    | _, _ => .stk
  | .exc e ρ1 => .exc e ρ1
  | _ => .stk
theorem ei_zip (hg : Gl X "zip") (hm : X.mg "zip" = none) (h : EvL X W [a, b] fl)
    (hs : starEach [a, b] X.env = (false, eval a X.env) :: starEach [b] X.env := by rfl) (hpl : (backTo pos (starEach [b] X.env)).any (·.1) = false := by rfl) : EvI X W (.Tuple elts kk tpos) (.Call (.Name "zip" p) [a, b] [] pos) (iZip fl) :=
  pi_w (RZ.pi_zipA hg hm h hs hpl) fun σ H R ⟨Hf, T, ρ, F, s, h⟩ => by
    refine ⟨Hf, T, ρ, F, s, ?_⟩
    unfold iZip at h
    cases q : fl ρ with
    | exc e ρ1 => rw [q] at h; exact h
    | stk => rw [q] at h; exact h
    | ok os ρ1 =>
      rw [q] at h
      intro vs H1 Hf1 l sm s1
      match os, vs, l, h, s1 with
      | [o, o2], [v, w], _, h, s1 =>
        simp only at h
        obtain ⟨Hf2, sm2, s2⟩ := SI.freeze (T := (w, o2) :: T) s1
        obtain ⟨its, F2, s3, bk⟩ := s2.ex2
        have s3 : SX X.K Hf2 ((w, o2) :: (v, .sh (fz o)) :: (T ++ its)) F2 H1 := s3.perm (List.Perm.swap _ _ _)
        obtain ⟨Hf3, sm3, s4⟩ := s3.freeze
        have rw2 := s4.rp
        have rv := s4.drop.rp
        have s5 : SI X.K Hf3 T ρ1 F σ H1 := bk T _ _ sm3 (s4.drop.drop)
        have sm' := (sm.trans sm2).trans sm3
        cases hd : fz o with
        | list ds =>
          rw [hd] at rv
          cases hd2 : fz o2 with
          | list es =>
            rw [hd2] at rw2
            simp only [hd, hd2] at h
            obtain ⟨ad, xs, rfl, t1, r1⟩ := rv.sqL
            obtain ⟨bd, ys, rfl, t2, r2⟩ := rw2.sqL
            exact ⟨ad, bd, xs, ys, rfl, .inl ⟨s4.sub.sqL t1, s4.sub.sqL t2, h _ H1 Hf3 sm' s5 (walkD_zip t1 t2 r1 r2)⟩⟩
          | _ => simp only [hd, hd2] at h
        | tuple ds =>
          rw [hd] at rv
          cases hd2 : fz o2 with
          | tuple es =>
            rw [hd2] at rw2
            simp only [hd, hd2] at h
            obtain ⟨ad, xs, rfl, t1, r1⟩ := rv.sqT
            obtain ⟨bd, ys, rfl, t2, r2⟩ := rw2.sqT
            exact ⟨ad, bd, xs, ys, rfl, .inr ⟨s4.sub.sqT t1, s4.sub.sqT t2, h _ H1 Hf3 sm' s5 (walkD_zipT t1 t2 r1 r2)⟩⟩
          | _ => simp only [hd, hd2] at h
        | _ => simp only [hd] at h
      | [], _, _, h, _ => exact h.elim
      | [_], _, _, h, _ => exact h.elim
      | _ :: _ :: _ :: _, _, _, h, _ => exact h.elim
end
section
variable {prog : Program} {w : World} {A : Around} {E : Value → Shared → Prop} {s : Shared}
abbrev gathered (h : Heap) (xs : Array Value) : Heap := (h.push { cls := .type "list", data := .seq ([] : List Value).toArray }).update h.objs.size (Obj.mapSeq (· ++ xs))
theorem gathered_old {h : Heap} {xs : Array Value} {b : Addr} {o : Obj} (e : h.get? b = some o) : (gathered h xs).get? b = some o := by
  have lt := Heap.lt_size e
  first
    | exact (Heap.get?_update_other _ _ (Nat.ne_of_gt lt)).trans (Heap.get?_push_of_some _ e)
    | exact (Heap.get?_update_ne _ _ _ _ (Nat.ne_of_lt lt)).trans (Heap.get?_push_of_some _ e)
theorem gathered_size (h : Heap) (xs : Array Value) : (gathered h xs).objs.size = h.objs.size + 1 := by
  unfold gathered
  rw [Heap.size_update, Heap.size_push]
theorem collect_at {it : Addr} {T : String} {o : Obj} {xs : Array Value} {n : Nat} {Q : List Value → Shared → Prop} (hT : T = "list" ∨ T = "tuple") (ho : s.heap.get? it = some o) (hc : o.cls = .type T) (hd : o.data = .seq xs n) (hz : xs.size ≤ sizeLine)
    (q : Q xs.toList { s with heap := gathered s.heap xs }) : wpAny (model prog w) A (collect (.ref it)) Q E s := by
  have new : (s.heap.push { cls := .type "list", data := .seq ([] : List Value).toArray }).get? s.heap.objs.size = some { cls := .type "list", data := .seq #[] 0 } := Heap.get?_push_size _ rfl
  have full : (gathered s.heap xs).get? s.heap.objs.size = some { cls := .type "list", data := .seq (#[] ++ xs) 1 } ∨ ∃ k, (gathered s.heap xs).get? s.heap.objs.size = some { cls := .type "list", data := .seq (#[] ++ xs) k } := .inr ⟨_, Heap.get?_update_self (Obj.mapSeq (· ++ xs)) new rfl⟩
  obtain ⟨k, full⟩ : ∃ k, (gathered s.heap xs).get? s.heap.objs.size = some { cls := .type "list", data := .seq (#[] ++ xs) k } := by
    rcases full with z | z
    · exact ⟨_, z⟩
    · exact z
  have last : wpAny (model prog w) A (load s.heap.objs.size >>= fun ob => match ob.data with | Data.seq ys _ => pure ys.toList | _ => unsupported "internal:collect") Q E { s with heap := gathered s.heap xs } :=
    wpAny_bind (wpAny_load full (wpAny_pure (by rw [show ((#[] : Array Value) ++ xs).toList = xs.toList from by simp]; exact q)))
  have ext := PySem.wpAny_extend_seq (prog := prog) (w := w) (hsz := hz) (A := A) (R := fun r s' => r = .ok (.ret (.ref s.heap.objs.size)) ∧ s' = { s with heap := gathered s.heap xs }) (s := { s with heap := s.heap.push { cls := .type "list", data := .seq ([] : List Value).toArray } }) s.heap.objs.size it (.ref s.heap.objs.size) 0 hT new (Heap.get?_push_of_some _ ho) hc hd ⟨rfl, rfl⟩
  unfold collect
  refine wpAny_bind (wpAny_runValue ?_); refine codeAny_builtin F.entry_proto_collect ?_
  rw [Around.under_plainId F.plain_proto_collect _]; show wpAny _ _ (newList [] >>= _) _ _ _
  refine wpAny_bind (wpAny_newObj_type ?_); refine wpAny_pure ⟨plainId_quiet F.plain_list_iadd _, ?_⟩
  refine codeAny_builtin F.entry_list_iadd ?_; rw [Around.under_plainId F.plain_list_iadd _]
  refine wpAny_mono ext (fun fin s' z => ?_) fun e s' z => absurd z.1 (by simp)
  cases fin with
  | done f => obtain ⟨z1, rfl⟩ := z; cases z1; exact last
  | again c' => exact ⟨z.1, codeAny_mono z.2 fun r s'' hr => by obtain ⟨rfl, rfl⟩ := hr; exact last⟩
open PySem.W in
theorem sorted_seq {β : Type} {l : Addr} {T : String} {o : Obj} {items : Array Value} {n : Nat} {bs : List β} {enc : β → PyData} {R : Value → β → Prop} {Q : Value → Shared → Prop} (hT : T = "list" ∨ T = "tuple") (ho : s.heap.get? l = some o) (hc : o.cls = .type T) (hd : o.data = .seq items n)
    (e : EachIs R items.toList bs) (er : EachIs (fun v b => ∃ as, Reads s.heap v (enc b) as) items.toList bs) (hal : AllAlike (bs.map enc)) (hk : Sortable (bs.map enc)) (hL : bs.length ≤ sizeLine) (hu : ∀ b, b ∈ bs → A.units + 2 + (enc b).depth < cLine)
    (h : ∀ (h' : Heap) (a : Addr) (out : List Value) (c : Nat), s.heap.objs.size ≤ a → (∀ b o, s.heap.get? b = some o → h'.get? b = some o) → h'.get? a = some (seqObj "list" out.toArray c) → out.length = bs.length → EachIs R out (bs.mergeSort (dataLe false enc)) → Q (.ref a) { s with heap := h' }) :
    wpAny (model prog w) A (call (.builtin "sorted") [.ref l]) Q E s := by
  have hlen : items.toList.length = bs.length := e.length
  have hsz : items.size ≤ sizeLine := by
    have : items.toList.length = items.size := by simp
    omega
  refine call_function_entry_kw kind_sorted plain_sorted entry_sorted (args_sorted1 _) ?_
  unfold Builtin.«sorted»
  refine wpAny_bind (m := checkCount "sorted" 1 1 _) (wpAny_pure ?_)
  refine wpAny_bind (collect_at hT ho hc hd hsz ?_)
  refine wpAny_bind (wpAny_newList ?_ (by rw [hlen]; exact hL))
  have ze := gathered_size s.heap items
  have k1 : ∀ b o, s.heap.get? b = some o → (gathered s.heap items).get? b = some o := fun b o q => gathered_old q
  generalize gathered s.heap items = h1 at ze k1 ⊢
  have ho2 : (h1.push { cls := .type "list", data := .seq items.toList.toArray }).get? h1.objs.size = some (seqObj "list" items.toList.toArray 0) := Heap.get?_push_size _ rfl
  have k2 : ∀ b o, s.heap.get? b = some o → (h1.push { cls := .type "list", data := .seq items.toList.toArray }).get? b = some o := fun b o q => Heap.get?_push_of_some _ (k1 b o q)
  have le : s.heap.objs.size ≤ h1.objs.size := by rw [ze]; exact Nat.le_succ _
  have ne : ∀ b o, s.heap.get? b = some o → b ≠ h1.objs.size := fun b o q => Nat.ne_of_lt (Nat.lt_of_lt_of_le (Heap.lt_size q) le)
  generalize hh2 : h1.push { cls := .type "list", data := .seq items.toList.toArray } = h2 at ho2 k2 ⊢
  have er' : EachIs (fun v b => ∃ as, Reads (sortingHeap h2 h1.objs.size items.toList) v (enc b) as) items.toList bs := er.mono fun _ _ ⟨as, r⟩ => ⟨as, PyProof.Rows.Reads.keeps (fun b o q => sortingHeap_old (ne b o q) (k2 b o q)) r⟩
  refine wpAny_bind (wpAny_holding (wpAny_call_entry_kw slot_list_sort ⟨_, ho2, rfl⟩ entry_list_sort ?_ (args_list_sort _)))
  refine list_sort_vals (κ := dataKind (sortingHeap h2 h1.objs.size items.toList) (bs.map enc)) (s := { s with heap := h2 }) ho2 (SortsAt.data (s := { s with heap := sortingHeap h2 h1.objs.size items.toList }) (each_map (R := fun v d => ∃ as, Reads (sortingHeap h2 h1.objs.size items.toList) v d as) enc er') hal hk (bound_map hu)) (by rw [hlen]; exact hL) ⟨_, rfl, wpAny_pure ⟨_, rfl, ?_⟩⟩
  obtain ⟨c, hc2⟩ := sortedHeap_at (out := (sortVals (dataKind (sortingHeap h2 h1.objs.size items.toList) (bs.map enc)) false items.toList items.toList).toArray) ho2
  exact h _ _ _ c le (fun b o q => by rw [sortedHeap_old (ne b o q) (Heap.lt_size (k2 b o q))]; exact k2 b o q) hc2 (by rw [sortVals_length false rfl]; exact e.length) (sortVals_data false e er' hal)
end
section
variable {X : Cx} {W : WX} {e : Expr} {es : List Expr} {fl : Rho → ReL} {pos p : Pos} {n m : Nat} {x : Str}
def tupB : PyData → Bool
  | .tuple (_ :: _) => true
  | _ => false
def offB : PyData → Bool
  | .none => false
  | .tuple _ => false
  | _ => true
def sortOk (ds : List PyData) : Bool := (ds.all fun d => ds.all fun e => PySem.W.alike d e) && (ds.all tupB || ds.all offB) && (ds.all fun d => SeqAt.shaped d && decide (d.depth ≤ 60)) && decide (ds.length ≤ sizeLine)
def leD (d e : PyData) : Bool := PySem.W.dataLe false (fun z : PyData => z) d e
theorem sortOk_ok {ds : List PyData} (h : sortOk ds = true) : PySem.W.AllAlike ds ∧ PySem.W.Sortable ds ∧ (∀ d ∈ ds, SeqAt.shaped d = true ∧ d.depth ≤ 60) ∧ ds.length ≤ sizeLine := by
  unfold sortOk at h
  simp only [Bool.and_eq_true, Bool.or_eq_true, List.all_eq_true, decide_eq_true_eq] at h
  obtain ⟨⟨⟨h1, h2⟩, h3⟩, h4⟩ := h
  refine ⟨fun d hd d' hd' => h1 d hd d' hd', ?_, h3, h4⟩
  rcases h2 with h2 | h2
  · refine .inl fun d hd => ?_
    have := h2 d hd
    cases d with
    | tuple xs => cases xs with
      | nil => cases this
      | cons y r => exact ⟨y, r, rfl⟩
    | _ => cases this
  · refine .inr fun d hd => ?_
    have := h2 d hd
    cases d with
    | none => cases this
    | tuple xs => cases this
    | _ => exact ⟨by simp, by simp⟩
def rSortD (K : PySem.W.Frag) : List V → Hp → VK → Prop := fun vs H Q => ∃ (a : Addr) (xs : List V) (ds : List PyData) (m : List Addr), vs = [.ref a] ∧ (SqL K H a xs ∨ SqT K H a xs) ∧ RpAll K ⟨H, m⟩ xs ds ∧ sortOk ds = true ∧
  ∀ p, H p = none → Q (.ref p) (upd H p (.lst (((xs.zip ds).mergeSort (PySem.W.dataLe false fun b : V × PyData => b.2)).map (·.1))))
theorem each_zip {h : Heap} : ∀ {xs : List V} {us : List Value} {ds : List PyData}, Vals xs us → xs.length = ds.length → (∀ (v : V) (u : Value) (d : PyData), (v, d) ∈ xs.zip ds → RelV v u → ∃ as, Reads h u d as) →
    PySem.W.EachIs (fun u (b : V × PyData) => RelV b.1 u) us (xs.zip ds) ∧ PySem.W.EachIs (fun u (b : V × PyData) => ∃ as, Reads h u b.2 as) us (xs.zip ds)
  | _, _, [], .nil, _, _ => ⟨.nil, .nil⟩
  | _, _, d :: ds, .cons r t, l, f => by
    obtain ⟨h1, h2⟩ := each_zip t (ds := ds) (by simpa using l) fun v u d' hm => f v u d' (List.mem_cons_of_mem _ hm)
    exact ⟨.cons r h1, .cons (f _ _ _ List.mem_cons_self r) h2⟩
theorem each_vals : ∀ {us : List Value} {bs : List (V × PyData)}, PySem.W.EachIs (fun u (b : V × PyData) => RelV b.1 u) us bs → Vals (bs.map (·.1)) us
  | _, _, .nil => .nil
  | _, _, .cons h t => .cons h (each_vals t)
theorem zip_fst {α β : Type} : ∀ (xs : List α) (ys : List β), xs.length = ys.length → (xs.zip ys).map (·.1) = xs ∧ (xs.zip ys).map (·.2) = ys
  | [], [], _ => ⟨rfl, rfl⟩
  | x :: xs, y :: ys, h => by
    obtain ⟨h1, h2⟩ := zip_fst xs ys (by simpa using h)
    simp [h1, h2]
theorem rp_zip {K : PySem.W.Frag} {H : Hg} : ∀ {xs : List V} {ds : List PyData}, RpAll K H xs ds → ∀ {v : V} {d : PyData}, (v, d) ∈ xs.zip ds → Rp K H v d
  | _, _, .nil, _, _, h => by simp at h
  | _, _, .cons r t, v, d, h => by
    rw [List.zip_cons_cons] at h
    rcases List.mem_cons.mp h with e | h
    · cases e; exact r
    · exact rp_zip t h
theorem call_sortD (hu : X.A.units + 65 < cLine) : CallR X (.builtin "sorted") (rSortD X.K) := by
  intro pins s σ H vs us Q I r ⟨a, xs, ds, _, ev, hq, rp, ok, q⟩
  subst ev
  obtain ⟨u, eu, rx⟩ := vals1 r
  subst eu
  cases rx
  obtain ⟨hal, hk, hsh, hz⟩ := sortOk_ok ok
  have el := rp.len
  obtain ⟨z1, z2⟩ := zip_fst xs ds el
  have key : ∀ (its : List Value) (T : String) (o : Obj) (n : Nat), T = "list" ∨ T = "tuple" → Vals xs its → s.heap.get? a = some o → o.cls = .type T → o.data = .seq its.toArray n → wpAny (model X.prog X.w) X.A (call (.builtin "sorted") [.ref a]) (EP X pins σ Q) X.xe s := by
    intro its T o n hT rv ho hc hd
    obtain ⟨e1, e2⟩ := each_zip (h := s.heap) rv el fun v u d hm ru => Dp.reads I d v u ((rp_zip rp hm).dp (SeqAt.canLay_of_shaped (hsh d (by rw [← z2]; exact List.mem_map.mpr ⟨(v, d), hm, rfl⟩)).1)) ru
    refine sorted_seq (bs := xs.zip ds) (enc := fun b => b.2) (R := fun u b => RelV b.1 u) hT ho hc hd (by simpa using e1) (by simpa using e2) (by rw [z2]; exact hal) (by rw [z2]; exact hk) (by rw [List.length_zip, el]; omega) (fun b hb => ?_) fun h' p out c le kp hp hl eo => ?_
    · have := (hsh b.2 (by rw [← z2]; exact List.mem_map.mpr ⟨b, hb, rfl⟩)).2
      show X.A.units + 2 + b.2.depth < cLine
      omega
    · have rv' := each_vals eo
      have hlen : (((xs.zip ds).mergeSort (PySem.W.dataLe false fun b : V × PyData => b.2)).map (·.1)).length ≤ sizeLine := by
        rw [List.length_map, List.length_mergeSort, List.length_zip, el]; omega
      exact ⟨.ref p, _, I.laid (t' := s.toks) kp le (show ObjOk X.prog X.w _ _ _ (.lst _) from ⟨hlen, out, c, rv', hp⟩), rfl, q p (I.hok.fresh le)⟩
  rcases hq with hq | hq
  · obtain ⟨its, rv, pl, _⟩ := I.list hq
    obtain ⟨o, n, ho, hc, hd, hdat⟩ := pl
    exact key its "list" o n (.inl rfl) rv ho hc hdat
  · obtain ⟨its, rv, pl, _⟩ := I.tuple hq
    obtain ⟨o, ho, hc, n, hdat⟩ := pl
    exact key its "tuple" o n (.inr rfl) rv ho hc hdat
theorem zip_sort {xs : List V} {ds : List PyData} (l : xs.length = ds.length) : ((xs.zip ds).mergeSort (PySem.W.dataLe false fun b : V × PyData => b.2)).map (·.2) = ds.mergeSort leD := by
  rw [List.map_mergeSort (r := PySem.W.dataLe false fun b : V × PyData => b.2) (s := leD) (f := (·.2)) (l := xs.zip ds) fun a _ b _ => rfl, (zip_fst xs ds l).2]
theorem rpAll_of {K : PySem.W.Frag} {H : Hg} : ∀ {l : List (V × PyData)}, (∀ b ∈ l, Rp K H b.1 b.2) → RpAll K H (l.map (·.1)) (l.map (·.2))
  | [], _ => .nil
  | b :: l, h => .cons (h b List.mem_cons_self) (rpAll_of fun b' hb => h b' (List.mem_cons_of_mem _ hb))
def sortD (ds : List PyData) : Option OV := if sortOk ds = true then some (.lst ((ds.mergeSort leD).map .sh)) else none
def dSorted : PyData → Option OV
  | .list ds => sortD ds
  | .tuple ds => sortD ds
  | _ => none
theorem opn_sorted {K : PySem.W.Frag} : OpN K (rSortD K) (g1 dSorted) := opN1 fun Hf its F H v d c Q s r h q => by
  have key : ∀ (a : Addr) (xs : List V) (ds : List PyData), (SqL K Hf.h a xs ∨ SqT K Hf.h a xs) → RpAll K Hf xs ds → sortD ds = some c → rSortD K [.ref a] H Q := by
    intro a xs ds hq ra hs
    unfold sortD at hs
    by_cases ok : sortOk ds = true
    · rw [if_pos ok] at hs
      cases hs
      refine ⟨a, xs, ds, Hf.m, rfl, ?_, RpAll.mono s.sub ra, ok, fun p hp => ?_⟩
      · rcases hq with z | z
        · exact .inl (s.sub.sqL z)
        · exact .inr (s.sub.sqT z)
      · have ra2 : RpAll K Hf (((xs.zip ds).mergeSort (PySem.W.dataLe false fun b : V × PyData => b.2)).map (·.1)) (ds.mergeSort leD) := by
          rw [← zip_sort ra.len]
          exact rpAll_of fun b hb => rp_zip ra ((List.mergeSort_perm _ _).mem_iff.mp hb)
        refine q _ _ Hf (Same.refl _) ?_
        refine SX.newOwn (C := []) (its := its) s hp fun bs hbs => ?_
        cases hbs
        exact .lst (.of_rp ra2)
    · rw [if_neg ok] at hs; cases hs
  unfold dSorted at h
  cases d with
  | list ds =>
    obtain ⟨a, xs, rfl, t1, r1⟩ := r.sqL
    exact key a xs ds (.inl t1) r1 h
  | tuple ds =>
    obtain ⟨a, xs, rfl, t1, r1⟩ := r.sqT
    exact key a xs ds (.inr t1) r1 h
  | _ => cases h
theorem b_sorted (G : Good X W n) (hm : X.mg "sorted" = none) : BIn X "sorted" "sorted" (g1 dSorted) := ⟨⟨_, call_sortD G.hu, opn_sorted⟩, hm, by decide +kernel⟩
end
section
open PySem.AutoSeq1 in
set_option maxHeartbeats 2000000 in
theorem enum_new1 {v : Value} {o : Obj} {Hh : Heap → Prop} (B : Begins v o Hh) : Meets (Builtin.«enumerate.__new__» ⟨[.type "enumerate", v], []⟩) (fun _ R s => Hh s.heap ∧
    R (.ok (.ret (.ref (s.heap.push o).objs.size))) { s with heap := (s.heap.push o).push { cls := .type "enumerate", data := .fields #[.none, .bool false, .ref s.heap.objs.size, rawInt 0, .none, .none] } }) := by
  refine .of_wp fun prog w A R s h => ?_
  obtain ⟨hp, g, d, tk, os⟩ := s
  obtain ⟨h1, h⟩ := h
  have hsub := sub_enumerate
  have q1 : ∀ {A' : Around} {E : Value → Shared → Prop} {Q : Value → Shared → Prop}, Q (.ref hp.objs.size) ⟨hp.push o, g, d, tk, os⟩ → wpAny (model prog w) A' (pyIter v) Q E ⟨hp, g, d, tk, os⟩ := fun q => B.iter prog w _ _ ⟨hp, g, d, tk, os⟩ _ h1 q
  wp_walk using q1
  refine wpAny_stack_any fun st => wpAny_pure ?_
  split
  · rename_i c _ _ _ _ _
    cases (c == Value.type "enumerate")
    · wp_walk using q1; exact ⟨_, rfl, h⟩
    · wp_walk using q1; exact ⟨_, rfl, h⟩
  · wp_walk using q1; exact ⟨_, rfl, h⟩
end
section
variable {prog : Program} {w : World} {A : Around} {E : Value → Shared → Prop} {s : Shared}
theorem enum_one {v : Value} {o : Obj} {Hh : Heap → Prop} {Q : Value → Shared → Prop} (B : Begins v o Hh) (h1 : Hh s.heap)
    (h : ∀ h', IsEnum h' (s.heap.objs.size + 1) s.heap.objs.size 0 .none → h'.get? s.heap.objs.size = some o → (∀ b o, s.heap.get? b = some o → h'.get? b = some o) → Q (.ref (s.heap.objs.size + 1)) { s with heap := h' }) :
    wpAny (model prog w) A (call (.type "enumerate") [v]) Q E s := by
  have hz : (s.heap.push o).objs.size = s.heap.objs.size + 1 := Heap.size_push ..
  have he : IsEnum ((s.heap.push o).push { cls := .type "enumerate", data := .fields #[.none, .bool false, .ref s.heap.objs.size, rawInt 0, .none, .none] }) (s.heap.objs.size + 1) s.heap.objs.size 0 .none := by
    have z := Heap.get?_push_size (s.heap.push o) (o := { cls := .type "enumerate", data := .fields #[.none, .bool false, .ref s.heap.objs.size, rawInt 0, .none, .none] }) rfl
    rw [hz] at z; exact z
  have fin := h _ he (Heap.get?_push_of_some _ (Heap.get?_push_size _ B.free)) fun b o x => Heap.get?_push_of_some _ (Heap.get?_push_of_some _ x)
  refine callType_new F.called_enumerate (by decide) (F.typeCall_enumerate_1 _) (F.newCall_enumerate_1 _) (fun obj => F.args_object_init_2 obj _) F.entry_enumerate_new (enum_new1 B) ⟨h1, ?_⟩
  show _ ∧ _
  rw [hz]
  exact ⟨⟨_, he, rfl⟩, fin⟩
end
def ItET (K : PySem.W.Frag) (a : Addr) : It where
  go := fun i H => ∃ (xs : List V) (x : V), SqT K H a xs ∧ xs[i]? = some x
  yld := fun i H v H' => ∃ T x, v = .ref T ∧ H T = none ∧ H' = upd H T (.tup [.int (i : Nat), x]) ∧ ∀ xs, SqT K H a xs → xs[i]? = some x
  stop := fun i H => ∃ xs : List V, SqT K H a xs ∧ xs.length = i
def EnT (a e it : Addr) (i : Nat) (h : Heap) : Prop := (∃ old, IsEnum h e it (i : Nat) old) ∧ h.IsTupleIter it a i ∧ e ≠ it ∧ e ≠ a ∧ a ≠ it
theorem turn_enT {P : Program} {w : World} {K : PySem.W.Frag} {elts : List Expr} {kk : Nat} {tpos : Pos} (a e it : Addr) : Turn P w K (.Tuple elts kk tpos) (ItET K a) [e, it] e (EnT a e it) := by
  have two : ∀ {b : Addr}, b ∈ [e, it] → b = e ∨ b = it := fun hb => by simpa using hb
  refine ⟨by simp, fun i h st b hb => ?_, fun i h h' st k => ?_, ?_, ?_, fun A i s Q E st h => ?_⟩
  · obtain ⟨⟨old, he⟩, ⟨o, ho, hc, hd⟩, _⟩ := st
    rcases two hb with rfl | rfl
    · exact ⟨_, he, fun v q => by cases q⟩
    · exact ⟨o, ho, fun v q => by rw [hd] at q; cases q⟩
  · obtain ⟨⟨old, he⟩, hi, hne⟩ := st
    exact ⟨⟨old, k e (by simp) _ he⟩, hi.at (fun o q => k it (by simp) o q), hne⟩
  · intro X hP hw hK hc i pins s σ H E I hf st hg
    subst hP hw hK
    obtain ⟨⟨old, he⟩, hit, hne, hea, hai⟩ := st
    obtain ⟨xs, x, hq, hx⟩ := hg
    obtain ⟨its, rv, p, _⟩ := I.tuple hq
    obtain ⟨u, hu, ru⟩ := rv.get hx
    have hlt : i < its.toArray.size := by
      have := (List.getElem?_eq_some_iff.mp hu).1
      simpa using this
    have pt : s.heap.IsTuple a its.toArray := p
    have D := Draws.tuple (prog := X.prog) (w := X.w) (A := X.A.in1) (I.ok.hd hc) it a hai its.toArray
    have lE : e < s.heap.objs.size := Heap.lt_size he
    have lI : it < s.heap.objs.size := by obtain ⟨_, q, _⟩ := hit; exact Heap.lt_size q
    refine wpAny_pyNext_enum_itemD D he ⟨hit, pt⟩ hlt hne (by simp [hne, hea]) fun x' h' tk hP ho st' hT hsz hk => ?_
    have ex : x' = u := by
      have h1 : its.toArray[i]? = some x' := hP
      have h2 : its.toArray[i]? = some u := by simpa using hu
      rw [h2] at h1
      exact (Option.some.inj h1).symm
    subst ex
    refine ⟨_, rfl, wpAny_letOwnedTupleGo_enum (s := { s with heap := h', toks := tk + 1 }) ho fun h2 he2 sb => ?_⟩
    have hT2 : h2.get? s.heap.objs.size = some { cls := .type "tuple", data := .seq #[.int i tk, x'] } := (sb.2 _ (Nat.ne_of_gt lE)).trans hT
    have mk : ObjOk X.prog X.w (upd H s.heap.objs.size (.tup [.int (i : Nat), x])) h2 s.heap.objs.size (.tup [.int (i : Nat), x]) := ⟨Nat.le_trans (by decide : 2 ≤ 63) (by decide), [.int i tk, x'], .cons ⟨_, rfl⟩ (.cons ru .nil), ⟨_, hT2, rfl, _, rfl⟩⟩
    have keep : ∀ b ob, b ∉ [e, it] → s.heap.get? b = some ob → h2.get? b = some ob := fun b ob hb q => by
      have n1 : b ≠ e := fun z => hb (by simp [z])
      have n2 : b ≠ it := fun z => hb (by simp [z])
      exact (sb.2 b n1).trans (hk b ob n1 n2 q)
    have I2 := I.turnedNew (t' := tk + 1) (ch := [e, it]) keep hf (Nat.le_refl _) mk
    have e1 : ((i + 1 : Nat) : Int) = (i : Int) + 1 := by omega
    refine ⟨.ref s.heap.objs.size, _, I2, rfl, ⟨_, x, rfl, I.hok.fresh (Nat.le_refl _), rfl, fun ys hy => by rw [I.tuple_inj hy hq]; exact hx⟩, ⟨⟨x', by rw [e1]; exact he2⟩, st'.1.at (fun o q => (sb.2 it hne.symm).trans q), hne, hea, hai⟩, fun b hb => ?_⟩
    have hb' : b < s.heap.objs.size := by
      rcases two hb with rfl | rfl
      · exact lE
      · exact lI
    rw [upd_ne (Nat.ne_of_lt hb')]; exact (hf b hb).1
  · intro X hP hw hK hc i pins s σ H E I hf st hg
    subst hP hw hK
    obtain ⟨⟨old, he⟩, hit, hne, hea, hai⟩ := st
    obtain ⟨xs, hq, hx⟩ := hg
    obtain ⟨its, rv, p, _⟩ := I.tuple hq
    obtain ⟨f0, f1, f2, f3, f4, f5⟩ := hf it (by simp)
    have ei : i = its.toArray.size := by rw [← hx, List.size_toArray, rv.length]
    have pt : s.heap.IsTuple a its.toArray := p
    have D := Draws.tuple (prog := X.prog) (w := X.w) (A := X.A.in1) (I.ok.hd hc) it a hai its.toArray
    refine wpAny_pyNext_enum_endD D he ⟨ei ▸ hit, pt⟩ fun h' eb => ⟨rfl, ?_⟩
    exact I.turned (t' := s.toks) (fun b o hb q => eb b o hb q) f0 f1 f3 f4 f5
  · obtain ⟨⟨_, he⟩, _⟩ := st
    exact wpAny_pyIter_enum he h
section
variable {X : Cx} {W : WX} {e : Expr} {es elts : List Expr} {fl : Rho → ReL} {pos p tpos : Pos} {n m kk : Nat} {x : Str}
theorem boot_en : bootBuiltins "enumerate" = some (.type "enumerate") := by decide +kernel
def iEnumT (K : PySem.W.Frag) (ta : TA) : TI := fun σ H R => ta σ H fun vs H1 => ∃ a xs, vs = [.ref a] ∧ SqT K H1 a xs ∧ R (ItET K a) H1
theorem pi_enumT {ta : TA} (hg : Gl X "enumerate") (hm : X.mg "enumerate" = none) (ha : PA X [e] ta) (hs : starEach [e] X.env = [(false, eval e X.env)] := by rfl) : PI X (.Tuple elts kk tpos) (.Call (.Name "enumerate" p) [e] [] pos) (iEnumT X.K ta) := by
  refine ⟨fun pins s σ H R I h => ?_⟩
  refine Call_ (ld_blt I hg hm boot_en (PyProof.Rows.callWith_type1 (thn (ha.run pos pins s σ H _ I h) fun us s1 ⟨vs, H1, I1, r1, q1⟩ => ?_) hs rfl))
  obtain ⟨a, xs, ex, hq, q⟩ := q1
  subst ex
  obtain rfl := Vals.ref1 r1
  obtain ⟨its, rv, pt, _⟩ := I1.tuple hq
  have pt : s1.heap.IsTuple a its.toArray := pt
  have la : a < s1.heap.objs.size := by obtain ⟨_, z, _⟩ := pt; exact Heap.lt_size z
  refine enum_one (begins_tuple a its.toArray) pt fun h' he hit hk => wpAny_pyIter_enum he ?_
  have I2 : Inv X pins σ H1 { s1 with heap := h' } := I1.kept (t' := s1.toks) hk
  have n1 : s1.heap.objs.size + 1 ≠ a := Nat.ne_of_gt (Nat.lt_succ_of_lt la)
  refine ⟨s1.heap.objs.size + 1, [s1.heap.objs.size + 1, s1.heap.objs.size], _, _, H1, rfl, I2, turn_enT a _ _, ⟨⟨.none, he⟩, ⟨_, hit, rfl, rfl⟩, Nat.succ_ne_self _, n1, Nat.ne_of_lt la⟩, fun b hb => ?_, q⟩
  have hle : s1.heap.objs.size ≤ b := by
    rcases (show b = s1.heap.objs.size + 1 ∨ b = s1.heap.objs.size from by simpa using hb) with z | z
    · rw [z]; exact Nat.le_succ _
    · rw [z]; exact Nat.le_refl _
  exact I1.fpOk hle (I1.hok.fresh hle)
theorem pi_or2 {tg iter : Expr} {w1 w2 : TI} (h1 : PI X tg iter w1) (h2 : PI X tg iter w2) : PI X tg iter (fun σ H R => w1 σ H R ∨ w2 σ H R) := pi_or h1 h2
theorem walkD_enumT {K : PySem.W.Frag} {Hf : Hg} {a : Addr} {xs : List V} {ds : List PyData} (h : SqT K Hf.h a xs) (r : RpAll K Hf xs ds) : WalkD K Hf (ItET K a) (enumD 0 ds) := by
  refine ⟨fun i H hi e => ?_, fun H e => ⟨xs, e.sqT h, by rw [enumD_len, r.len]⟩, fun i H y H' hi e q => ?_⟩
  · rw [enumD_len] at hi
    obtain ⟨v, h1, _⟩ := r.get (List.getElem?_eq_getElem hi)
    exact ⟨xs, v, e.sqT h, h1⟩
  · obtain ⟨T, x, rfl, hT, rfl, fx⟩ := q
    obtain ⟨d, hd, rd⟩ := r.get' (fx xs (e.sqT h))
    refine ⟨_, enumD_get 0 ds i d hd, .inr (.inl ⟨T, _, _, rfl, hT, rfl, .cons ?_ (.cons rd .nil), rfl⟩)⟩
    rw [Nat.zero_add]
    exact .int _
def iEnumA (f : Rho → Re) (ρ : Rho) : ReI := match f ρ with
  | .ok o ρ1 => match itemsOfL (fz o) with
    | some ds => .ok (enumD 0 ds) ρ1
    | none => .stk
  | .exc e ρ1 => .exc e ρ1
  | .stk => .stk
theorem ei_enumA {f : Rho → Re} (hg : Gl X "enumerate") (hm : X.mg "enumerate" = none) (h : EvE X W e f) (hs : starEach [e] X.env = [(false, eval e X.env)] := by rfl) : EvI X W (.Tuple elts kk tpos) (.Call (.Name "enumerate" p) [e] [] pos) (iEnumA f) :=
  pi_w (pi_or2 (pi_enum hg hm (pa_cons h pa_nil (by rw [hs]; rfl)) hs) (pi_enumT hg hm (pa_cons h pa_nil (by rw [hs]; rfl)) hs)) fun σ H R ⟨Hf, T, ρ, F, s, h⟩ => by
    unfold iEnumA at h
    cases q : f ρ with
    | exc e ρ1 => rw [q] at h; exact .inl ⟨Hf, T, ρ, F, s, by rw [q]; exact h⟩
    | stk => rw [q] at h; exact .inl ⟨Hf, T, ρ, F, s, by rw [q]; exact h⟩
    | ok o ρ1 =>
      simp only [q] at h
      cases q2 : fz o with
      | list ds =>
        simp only [q2, itemsOfL] at h
        refine .inl ⟨Hf, T, ρ, F, s, ?_⟩
        rw [q]
        intro v H1 Hf1 sm s1
        obtain ⟨Hf2, sm2, s2⟩ := s1.freeze
        rw [q2] at s2
        obtain ⟨a, xs, rfl, t1, r1⟩ := s2.rp.sqL
        exact ⟨a, xs, rfl, s2.sub.sqL t1, h _ H1 Hf2 (sm.trans sm2) s2.drop (walkD_enum t1 r1)⟩
      | tuple ds =>
        simp only [q2, itemsOfL] at h
        refine .inr ⟨Hf, T, ρ, F, s, ?_⟩
        rw [q]
        intro v H1 Hf1 sm s1
        obtain ⟨Hf2, sm2, s2⟩ := s1.freeze
        rw [q2] at s2
        obtain ⟨a, xs, rfl, t1, r1⟩ := s2.rp.sqT
        exact ⟨a, xs, rfl, s2.sub.sqT t1, h _ H1 Hf2 (sm.trans sm2) s2.drop (walkD_enumT t1 r1)⟩
      | _ => simp only [q2, itemsOfL] at h
end
section
variable {X : Cx} {W : WX} {e a b c : Expr} {es elts : List Expr} {f fa fb fk : Rho → Re} {fl : Rho → ReL} {pos p tpos : Pos} {n m kk : Nat} {x : Str}
end
section
variable {K : PySem.W.Frag} {Hf : Hg} {H : Hp} {its : Its} {F : Fr} {F0 : Bs} {p : Addr} {u0 u : HO} {T : Its} {ρ : Rho} {σ : St}
theorem SX.hold (s : SX K Hf its F H) (hp : H p = Option.none) : SX K Hf its (fr ((p, u) :: F.b) F.m) (upd H p u) := by
  obtain ⟨⟨bs, h, n, a⟩, e, mm⟩ := s
  have ne : ∀ q ∈ bs ++ F.b, q.1 ≠ p := fun q hq => ne_of_none (a q hq).1 hp
  have pm : (bs ++ (p, u) :: F.b).Perm ((p, u) :: (bs ++ F.b)) := List.perm_middle
  refine ⟨⟨bs, h, ?_, fun q hq => ?_⟩, Ext.mkOn fun b x q => ?_, mm⟩
  · refine nodup_perm pm.symm ?_
    show (p :: ((bs ++ F.b).map (·.1))).Nodup
    refine List.nodup_cons.mpr ⟨fun hm => ?_, n⟩
    obtain ⟨q, hq, e⟩ := List.mem_map.mp hm
    exact ne q hq e
  · rcases List.mem_cons.mp (pm.mem_iff.mp hq) with rfl | hq
    · exact ⟨upd_same, .inl (e.none hp)⟩
    · rw [upd_ne (ne q hq)]; exact a q hq
  · have hb : b ≠ p := ne_of_none q (e.none hp)
    rw [upd_ne hb]; exact e.1 b x q
theorem SX.heldAt (s : SX K Hf its (fr ((p, u) :: F.b) F.m) H) : H p = some u := by
  obtain ⟨⟨bs, h, n, a⟩, e, mm⟩ := s
  exact (a (p, u) (List.mem_append_right _ List.mem_cons_self)).1
theorem SX.adopt {C : Its} {o : OV} (nt : ∀ xs, u0 ≠ .tup xs) (s : SX K Hf (C ++ its) (fr ((p, u0) :: F.b) F.m) H) (mk : ∀ bs, OwnI K Hf C bs → Own K Hf (.ref p) o ((p, u) :: bs)) : SX K Hf ((.ref p, o) :: its) F (upd H p u) := by
  obtain ⟨⟨bs, h, n, a⟩, e, mm⟩ := s
  obtain ⟨b1, b2, rfl, h1, h2⟩ := h.split
  have pm : ((b1 ++ b2) ++ (p, u0) :: F.b).Perm ((p, u0) :: (b1 ++ b2 ++ F.b)) := List.perm_middle
  have n' := nodup_perm pm n
  have n' : (p :: ((b1 ++ b2 ++ F.b).map (·.1))).Nodup := n'
  have hp := a (p, u0) (pm.mem_iff.mpr List.mem_cons_self)
  refine ⟨⟨((p, u) :: b1) ++ b2, .cons (mk b1 h1) h2, n', fun q hq => ?_⟩, Ext.mkOn fun b x q => ?_, mm⟩
  · rcases List.mem_cons.mp hq with rfl | hq
    · exact ⟨upd_same, .inl (hp.2.no nt)⟩
    · have ne : q.1 ≠ p := fun z => (List.nodup_cons.mp n').1 (List.mem_map.mpr ⟨q, hq, z⟩)
      rw [upd_ne ne]
      exact a q (pm.mem_iff.mpr (List.mem_cons_of_mem _ hq))
  · have ne : b ≠ p := fun z => by
      have := hp.2.no nt
      rw [← z, q] at this; cases this
    rw [upd_ne ne]; exact e.1 b x q
theorem SI.hold (s : SI K Hf T ρ F0 σ H) (hp : H p = Option.none) : SI K Hf T ρ ((p, u) :: F0) σ (upd H p u) := by
  obtain ⟨its, sb, hs, t, s⟩ := s.ex
  exact ⟨its, sb, hs, t, (SX.hold (u := u) s hp).frPerm List.perm_middle.symm⟩
theorem SI.heldAt (s : SI K Hf T ρ ((p, u) :: F0) σ H) : H p = some u := by
  obtain ⟨its, sb, hs, t, s⟩ := s.ex
  exact SX.heldAt (F := fr (sb ++ F0) Hf.m) (s.frPerm List.perm_middle)
theorem SI.adopt {C : Its} {o : OV} (nt : ∀ xs, u0 ≠ .tup xs) (s : SI K Hf (C ++ T) ρ ((p, u0) :: F0) σ H) (mk : ∀ bs, OwnI K Hf C bs → Own K Hf (.ref p) o ((p, u) :: bs)) : SI K Hf ((.ref p, o) :: T) ρ F0 σ (upd H p u) := by
  obtain ⟨its, sb, hs, t, s⟩ := s.ex
  rw [List.append_assoc] at s
  exact ⟨its, sb, hs, t, SX.adopt (F := fr (sb ++ F0) Hf.m) nt (s.frPerm List.perm_middle) mk⟩
end
def evPs : List ((Rho → Re) × (Rho → Re)) → Rho → Option (List (OV × OV) × Rho)
  | [], ρ => some ([], ρ)
  | (fk, fv) :: r, ρ => match fk ρ with
    | .ok k ρ1 => match fv ρ1 with
      | .ok v ρ2 => match evPs r ρ2 with
        | some (ps, ρ3) => some ((k, v) :: ps, ρ3)
        | none => none
      | _ => none
    | _ => none
def flatP : List (V × V) → List (OV × OV) → Its
  | (x, y) :: vs, (k, o) :: ps => (x, k) :: (y, o) :: flatP vs ps
  | _, _ => []
section
variable {X : Cx} {W : WX} {e a b c : Expr} {fk fv : Rho → Re} {pos p : Pos} {n m : Nat}
abbrev trsP (X : Cx) (W : WX) (fps : List ((Rho → Re) × (Rho → Re))) : List (TE × TE) := fps.map fun q => (tE X W q.1, tE X W q.2)
theorem pairs_post {F : Bs} {σ : St} : ∀ (fps : List ((Rho → Re) × (Rho → Re))) {Hf : Hg} {T : Its} {ρ ρ' : Rho} {H : Hp} {ps : List (OV × OV)} {Q : List (V × V) → Hp → Prop}, SI X.K Hf T ρ F σ H → evPs fps ρ = some (ps, ρ') →
    (∀ vps H' Hf', vps.length = ps.length → Same Hf Hf' → SI X.K Hf' (flatP vps ps ++ T) ρ' F σ H' → Q vps H') → tPairs (trsP X W fps) σ H Q
  | [], Hf, T, ρ, ρ', H, ps, Q, s, h, q => by
    cases h
    exact q [] H Hf rfl (Same.refl _) s
  | (fk, fv) :: r, Hf, T, ρ, ρ', H, ps, Q, s, h, q => by
    unfold evPs at h
    cases q1 : fk ρ with
    | exc e ρ1 => rw [q1] at h; cases h
    | stk => rw [q1] at h; cases h
    | ok k ρ1 =>
      rw [q1] at h
      simp only at h
      cases q2 : fv ρ1 with
      | exc e ρ1 => rw [q2] at h; cases h
      | stk => rw [q2] at h; cases h
      | ok v ρ2 =>
        rw [q2] at h
        simp only at h
        cases q3 : evPs r ρ2 with
        | none => rw [q3] at h; cases h
        | some z =>
          obtain ⟨ps', ρ3⟩ := z
          rw [q3] at h
          cases h
          refine ⟨Hf, T, ρ, F, s, ?_⟩
          show PostE X W Hf T F σ (fk ρ) _
          rw [q1]
          intro x H1 Hf1 sm1 s1
          refine ⟨Hf1, (x, k) :: T, ρ1, F, s1, ?_⟩
          show PostE X W Hf1 ((x, k) :: T) F σ (fv ρ1) _
          rw [q2]
          intro y H2 Hf2 sm2 s2
          refine pairs_post r s2 q3 fun vps H3 Hf3 l sm3 s3 => q ((x, y) :: vps) H3 Hf3 (by simp [l]) ((sm1.trans sm2).trans sm3) (s3.perm ?_)
          show (flatP vps ps' ++ ((y, v) :: (x, k) :: T)).Perm ((x, k) :: (y, v) :: (flatP vps ps' ++ T))
          exact (List.perm_middle.trans (List.Perm.cons _ List.perm_middle)).trans (List.Perm.swap _ _ _)
def keysP : List (OV × OV) → Option (List (Key × OV))
  | [] => some []
  | (k, o) :: ps => match asKey (fz k), keysP ps with
    | some q, some r => some ((q, o) :: r)
    | _, _ => none
def eDict (fps : List ((Rho → Re) × (Rho → Re))) (ρ : Rho) : Re := match evPs fps ρ with
  | some (ps, ρ1) => match keysP ps with
    | some kvs => if kvs.length ≤ 15 ∧ (kvs.map (·.1)).Nodup then .ok (.dk kvs) ρ1 else .stk
    | none => .stk
  | none => .stk
theorem mergeK_nodup : ∀ (more kvs : List (Key × V)), ((kvs ++ more).map (·.1)).Nodup → mergeK kvs more = kvs ++ more
  | [], kvs, _ => by simp [mergeK]
  | (k, v) :: more, kvs, n => by
    have e : putK kvs k v = kvs ++ [(k, v)] := by
      unfold putK
      rw [if_neg]
      intro h
      obtain ⟨q, hq, e⟩ := List.any_eq_true.mp h
      have e := of_decide_eq_true e
      rw [List.map_append, List.nodup_append] at n
      exact n.2.2 q.1 (List.mem_map.mpr ⟨q, hq, rfl⟩) k (by simp) e
    have := mergeK_nodup more (kvs ++ [(k, v)]) (by simpa using n)
    unfold mergeK at this ⊢
    rw [List.foldl_cons, e, this]
    simp
theorem flat_take {K : PySem.W.Frag} {Hf : Hg} {H : Hp} {F : Fr} : ∀ {vps : List (V × V)} {ps : List (OV × OV)} {kvs : List (Key × OV)} {T : Its}, vps.length = ps.length → keysP ps = some kvs → SX K Hf (flatP vps ps ++ T) F H →
    ∃ vs : List V, vs.length = kvs.length ∧ vps = ((kvs.map (·.1)).zip vs).map (fun kv => (kV kv.1, kv.2)) ∧ SX K Hf (vs.zip (kvs.map (·.2)) ++ T) F H
  | [], [], _, T, _, h, s => by cases h; exact ⟨[], rfl, rfl, s⟩
  | (x, y) :: vps, (k, o) :: ps, kvs, T, l, h, s => by
    unfold keysP at h
    cases q1 : asKey (fz k) with
    | none => simp [q1] at h
    | some q =>
      cases q2 : keysP ps with
      | none => simp [q1, q2] at h
      | some r =>
        simp only [q1, q2] at h
        cases h
        have s : SX K Hf ((x, k) :: (y, o) :: (flatP vps ps ++ T)) F H := s
        have rx : Rp K (_ : Hg) x (fz k) := s.rdH
        rw [asKey_inv q1] at rx
        have ex := rp_key rx
        subst ex
        have s2 : SX K Hf (flatP vps ps ++ ((y, o) :: T)) F H := s.drop.perm List.perm_middle.symm
        obtain ⟨vs, h1, h2, h3⟩ := flat_take (by simpa using l) q2 s2
        refine ⟨y :: vs, by simp [h1], by rw [h2]; rfl, ?_⟩
        exact h3.perm List.perm_middle
theorem ev_dict {keys : List (Option Expr)} {values : List Expr} {fps : List ((Rho → Re) × (Rho → Re))} (h : PPs X pos keys values (trsP X W fps)) (hall : keys.all (·.isSome) = true) (hl : keys.length = values.length) (h0 : keys ≠ []) (h15 : keys.length ≤ 15) :
    EvE X W (.Dict keys values pos) (eDict fps) := pe_w (pe_disp h hall hl h0 h15) fun σ H Q ⟨Hf, T, ρ, F, s, hh⟩ p hp => by
  unfold eDict at hh
  cases q1 : evPs fps ρ with
  | none => rw [q1] at hh; exact hh.elim
  | some z =>
    obtain ⟨ps, ρ1⟩ := z
    simp only [q1] at hh
    cases q2 : keysP ps with
    | none => simp only [q2] at hh; exact hh.elim
    | some kvs =>
      simp only [q2] at hh
      by_cases hc : kvs.length ≤ 15 ∧ (kvs.map (·.1)).Nodup
      · rw [if_pos hc] at hh
        have s1 : SI X.K Hf T ρ ((p, .dK []) :: F) σ (upd H p (.dK [])) := s.hold hp
        refine pairs_post fps s1 q1 fun vps H' Hf' l sm s2 => ?_
        have at_ := s2.heldAt
        obtain ⟨its, F2, s3, bk⟩ := s2.ex2
        rw [List.append_assoc] at s3
        obtain ⟨vs, h1, h2, h3⟩ := flat_take l q2 s3
        have hlen : (kvs.map (·.1)).length = vs.length := by rw [List.length_map, h1]
        refine ⟨at_, (kvs.map (·.1)).zip vs, h2, by rw [List.length_zip, List.length_map, h1]; omega, ?_⟩
        have hz : ((kvs.map (·.1)).zip vs).map (·.1) = kvs.map (·.1) := (zip_fst _ _ hlen).1
        rw [mergeK_nodup _ [] (by rw [List.nil_append, hz]; exact hc.2), List.nil_append]
        refine hh _ _ Hf' sm ?_
        have ek : kvs = (kvs.map (·.1)).zip (kvs.map (·.2)) := by
          clear hh hc q2 h1 h2 h3 hlen hz
          induction kvs with
          | nil => rfl
          | cons q r ih => simp [← ih]
        have h4 := bk (vs.zip (kvs.map (·.2)) ++ T) _ _ (Same.refl _) (by rw [List.append_assoc]; exact h3)
        have := SI.adopt (C := vs.zip (kvs.map (·.2))) (T := T) (o := .dk ((kvs.map (·.1)).zip (kvs.map (·.2)))) (u := .dK ((kvs.map (·.1)).zip vs)) (by intro _ h; cases h) h4 fun bs hbs => .dk hlen hc.2 (OwnI.lst (by rw [List.length_map, h1]) hbs)
        rw [← ek] at this
        exact this
      · rw [if_neg hc] at hh; exact hh.elim
end
def eDT (ρ : Rho) : Re := .ok (.dt []) ρ
def scal : PyData → Bool
  | .none => true | .bool _ => true | .int _ => true | .str _ => true | _ => false
section
variable {K : PySem.W.Frag}
theorem scal_any {H : Hg} {v : V} {d : PyData} (r : Rp K H v d) (h : scal d = true) : ∀ H', Rp K H' v d := by
  cases r with
  | non => exact fun _ => .non
  | bl b => exact fun _ => .bl b
  | int i => exact fun _ => .int i
  | str x => exact fun _ => .str x
  | lst _ _ => cases h
  | tup _ _ => cases h
  | tup3 _ _ _ _ => cases h
  | tupK _ _ => cases h
  | dk _ _ => cases h
  | dt _ _ => cases h
  | hd _ => cases h
def gSubD (d e : PyData) : Option PyData := match d, e with
  | .list ds, .int i => atI ds i
  | .tuple ds, .int i => atI ds i
  | .dict kvs, k => if okK kvs k = true then dLook kvs k else none
  | _, _ => none
def gSubP (d e : PyData) : Option PyData := match gSubD d e with
  | some c => if scal c = true then some c else none
  | none => none
theorem opp_sub : OpP K (rSub K) gSubP := by
  intro H x y d e c Q rx ry h q
  unfold gSubP at h
  cases q1 : gSubD d e with
  | none => rw [q1] at h; cases h
  | some c0 =>
    rw [q1] at h
    simp only at h
    by_cases hs : scal c0 = true
    case neg => rw [if_neg hs] at h; cases h
    rw [if_pos hs] at h
    cases h
    unfold gSubD at q1
    split at q1
    · obtain ⟨p1, xs, rfl, t1, r1⟩ := rx.sqL
      have e2 := rp_int ry
      subst e2
      obtain ⟨v, hv, rv⟩ := rpAll_at r1 q1
      exact .inl (.inl ⟨p1, xs, _, v, rfl, rfl, t1, hv, q v (scal_any rv hs)⟩)
    · obtain ⟨p1, xs, rfl, t1, r1⟩ := rx.sqT
      have e2 := rp_int ry
      subst e2
      obtain ⟨v, hv, rv⟩ := rpAll_at r1 q1
      exact .inl (.inr (.inl ⟨p1, xs, _, v, rfl, rfl, t1, hv, q v (scal_any rv hs)⟩))
    · rename_i kvs
      split at q1
      · rename_i ok
        obtain ⟨ad, o, rfl, hg, _, f⟩ := rp_dget rx ry ok
        obtain ⟨v, rfl, rv⟩ := f _ q1
        exact .inr ⟨ad, v, rfl, hg, q v (scal_any rv hs)⟩
      · cases q1
    · cases q1
end
section
variable {X : Cx} {W : WX} {e a b c : Expr} {es : List Expr} {f fa fb fk : Rho → Re} {fl : Rho → ReL} {pos apos cpos p : Pos} {n m k : Nat} {x : Str}
theorem ev_dT : EvE X W (.Dict [] [] pos) eDT := ev_dnewT
def OpP1 (K : PySem.W.Frag) (r : List V → Hp → VK → Prop) (g : PyData → Option PyData) : Prop :=
  ∀ (H : Hg) (x : V) (d c : PyData) (Q : VK), Rp K H x d → g d = some c → (∀ v, (∀ H', Rp K H' v c) → Q v H.h) → r [x] H.h Q
def eB1 (g : PyData → Option PyData) (i : Nat) (ρ : Rho) : Re := match ρ.sl[i]? with
  | some (some o) => ofP (g (fz o)) ρ
  | _ => .stk
theorem b1_post {r : List V → Hp → VK → Prop} {g : PyData → Option PyData} (ho : OpP1 X.K r g) {σ : St} {H : Hp} {Q : VK} {Hf : Hg} {T : Its} {ρ : Rho} {F : Bs} {i : Nat} (s : SI X.K Hf T ρ F σ H) (h : PostE X W Hf T F σ (eB1 g i ρ) Q) : tCons (tVar i) tNil σ H fun vs H1 => r vs H1 Q := by
  unfold eB1 at h
  cases q : ρ.sl[i]? with
  | none => simp only [q] at h; exact h.elim
  | some z =>
    cases z with
    | none => simp only [q] at h; exact h.elim
    | some o =>
      simp only [q] at h
      obtain ⟨v, hv, s2, _⟩ := s.take q
      refine ⟨v, hv, ?_⟩
      have rx : Rp X.K (_ : Hg) v (fz o) := s2.rdH
      unfold ofP at h
      cases q2 : g (fz o) with
      | none => simp only [q2] at h; exact h.elim
      | some c =>
        simp only [q2] at h
        exact ho (Hf.on H) v _ c Q rx q2 fun w hw => h w H Hf (Same.refl _) (s.add (hw Hf))
def dLenP : PyData → Option PyData
  | .list ds => some (.int ds.length)
  | .tuple ds => some (.int ds.length)
  | _ => none
theorem opp_len {K : PySem.W.Frag} : OpP1 K (fun xs H Q => ∃ p ys, xs = [V.ref p] ∧ (SqL K H p ys ∨ SqT K H p ys) ∧ Q (.int ys.length) H) dLenP := by
  intro H x d c Q r h q
  cases d with
  | list ds =>
    cases h
    obtain ⟨p1, ys, rfl, t1, r1⟩ := r.sqL
    exact ⟨p1, ys, rfl, .inl t1, q _ fun _ => by rw [r1.len]; exact .int _⟩
  | tuple ds =>
    cases h
    obtain ⟨p1, ys, rfl, t1, r1⟩ := r.sqT
    exact ⟨p1, ys, rfl, .inr t1, q _ fun _ => by rw [r1.len]; exact .int _⟩
  | _ => cases h
theorem ev_lenB {i : Nat} (hg : Gl X "len") (hm : X.mg "len" = none) (hx : PE X e (tVar i)) (hs : starEach [e] X.env = (false, eval e X.env) :: starEach [] X.env := by rfl) (hpl : (backTo pos (starEach [] X.env)).any (·.1) = false := by rfl) :
    EvE X W (.Call (.Name "len" p) [e] [] pos) (eB1 dLenP i) :=
  pe_w (pe_callB call_len_seq hg hm boot_len (pa_cons hx pa_nil hs) (by decide) (by decide) hs hpl) fun σ H Q ⟨Hf, T, ρ, F, s, h⟩ => b1_post opp_len s h
end
section
variable {K : PySem.W.Frag} {H : Hg}
end
section
variable {X : Cx} {W : WX} {e a b c : Expr} {es : List Expr} {f fa fb fk : Rho → Re} {fl : Rho → ReL} {pos apos cpos p : Pos} {n m k : Nat} {x : Str}
def gIsiP (T : String) (d : PyData) : Option PyData := if isDict d = true then none else some (.bool (isiB T d))
end
theorem gi_int_none : gIsi "int" [.sh .none] = some (.sh (.bool false)) := by simp only [gIsi, fz_sh, isDict, isiB, Bool.false_eq_true, if_false] <;> rfl
theorem gi_int_bool {b : Bool} : gIsi "int" [.sh (.bool b)] = some (.sh (.bool true)) := by simp only [gIsi, fz_sh, isDict, isiB, Bool.false_eq_true, if_false] <;> rfl
theorem gi_int_int {i : Int} : gIsi "int" [.sh (.int i)] = some (.sh (.bool true)) := by simp only [gIsi, fz_sh, isDict, isiB, Bool.false_eq_true, if_false] <;> rfl
theorem gi_int_str {x : Str} : gIsi "int" [.sh (.str x)] = some (.sh (.bool false)) := by simp only [gIsi, fz_sh, isDict, isiB, Bool.false_eq_true, if_false] <;> rfl
theorem gi_int_list {xs : List PyData} : gIsi "int" [.sh (.list xs)] = some (.sh (.bool false)) := by simp only [gIsi, fz_sh, isDict, isiB, Bool.false_eq_true, if_false] <;> rfl
theorem gi_int_tuple {xs : List PyData} : gIsi "int" [.sh (.tuple xs)] = some (.sh (.bool false)) := by simp only [gIsi, fz_sh, isDict, isiB, Bool.false_eq_true, if_false] <;> rfl
theorem gi_bool_none : gIsi "bool" [.sh .none] = some (.sh (.bool false)) := by simp only [gIsi, fz_sh, isDict, isiB, Bool.false_eq_true, if_false] <;> rfl
theorem gi_bool_bool {b : Bool} : gIsi "bool" [.sh (.bool b)] = some (.sh (.bool true)) := by simp only [gIsi, fz_sh, isDict, isiB, Bool.false_eq_true, if_false] <;> rfl
theorem gi_bool_int {i : Int} : gIsi "bool" [.sh (.int i)] = some (.sh (.bool false)) := by simp only [gIsi, fz_sh, isDict, isiB, Bool.false_eq_true, if_false] <;> rfl
theorem gi_bool_str {x : Str} : gIsi "bool" [.sh (.str x)] = some (.sh (.bool false)) := by simp only [gIsi, fz_sh, isDict, isiB, Bool.false_eq_true, if_false] <;> rfl
theorem gi_bool_list {xs : List PyData} : gIsi "bool" [.sh (.list xs)] = some (.sh (.bool false)) := by simp only [gIsi, fz_sh, isDict, isiB, Bool.false_eq_true, if_false] <;> rfl
theorem gi_bool_tuple {xs : List PyData} : gIsi "bool" [.sh (.tuple xs)] = some (.sh (.bool false)) := by simp only [gIsi, fz_sh, isDict, isiB, Bool.false_eq_true, if_false] <;> rfl
theorem gi_str_none : gIsi "str" [.sh .none] = some (.sh (.bool false)) := by simp only [gIsi, fz_sh, isDict, isiB, Bool.false_eq_true, if_false] <;> rfl
theorem gi_str_bool {b : Bool} : gIsi "str" [.sh (.bool b)] = some (.sh (.bool false)) := by simp only [gIsi, fz_sh, isDict, isiB, Bool.false_eq_true, if_false] <;> rfl
theorem gi_str_int {i : Int} : gIsi "str" [.sh (.int i)] = some (.sh (.bool false)) := by simp only [gIsi, fz_sh, isDict, isiB, Bool.false_eq_true, if_false] <;> rfl
theorem gi_str_str {x : Str} : gIsi "str" [.sh (.str x)] = some (.sh (.bool true)) := by simp only [gIsi, fz_sh, isDict, isiB, Bool.false_eq_true, if_false] <;> rfl
theorem gi_str_list {xs : List PyData} : gIsi "str" [.sh (.list xs)] = some (.sh (.bool false)) := by simp only [gIsi, fz_sh, isDict, isiB, Bool.false_eq_true, if_false] <;> rfl
theorem gi_str_tuple {xs : List PyData} : gIsi "str" [.sh (.tuple xs)] = some (.sh (.bool false)) := by simp only [gIsi, fz_sh, isDict, isiB, Bool.false_eq_true, if_false] <;> rfl
theorem gi_list_none : gIsi "list" [.sh .none] = some (.sh (.bool false)) := by simp only [gIsi, fz_sh, isDict, isiB, Bool.false_eq_true, if_false] <;> rfl
theorem gi_list_bool {b : Bool} : gIsi "list" [.sh (.bool b)] = some (.sh (.bool false)) := by simp only [gIsi, fz_sh, isDict, isiB, Bool.false_eq_true, if_false] <;> rfl
theorem gi_list_int {i : Int} : gIsi "list" [.sh (.int i)] = some (.sh (.bool false)) := by simp only [gIsi, fz_sh, isDict, isiB, Bool.false_eq_true, if_false] <;> rfl
theorem gi_list_str {x : Str} : gIsi "list" [.sh (.str x)] = some (.sh (.bool false)) := by simp only [gIsi, fz_sh, isDict, isiB, Bool.false_eq_true, if_false] <;> rfl
theorem gi_list_list {xs : List PyData} : gIsi "list" [.sh (.list xs)] = some (.sh (.bool true)) := by simp only [gIsi, fz_sh, isDict, isiB, Bool.false_eq_true, if_false] <;> rfl
theorem gi_list_tuple {xs : List PyData} : gIsi "list" [.sh (.tuple xs)] = some (.sh (.bool false)) := by simp only [gIsi, fz_sh, isDict, isiB, Bool.false_eq_true, if_false] <;> rfl
theorem gi_tuple_none : gIsi "tuple" [.sh .none] = some (.sh (.bool false)) := by simp only [gIsi, fz_sh, isDict, isiB, Bool.false_eq_true, if_false] <;> rfl
theorem gi_tuple_bool {b : Bool} : gIsi "tuple" [.sh (.bool b)] = some (.sh (.bool false)) := by simp only [gIsi, fz_sh, isDict, isiB, Bool.false_eq_true, if_false] <;> rfl
theorem gi_tuple_int {i : Int} : gIsi "tuple" [.sh (.int i)] = some (.sh (.bool false)) := by simp only [gIsi, fz_sh, isDict, isiB, Bool.false_eq_true, if_false] <;> rfl
theorem gi_tuple_str {x : Str} : gIsi "tuple" [.sh (.str x)] = some (.sh (.bool false)) := by simp only [gIsi, fz_sh, isDict, isiB, Bool.false_eq_true, if_false] <;> rfl
theorem gi_tuple_list {xs : List PyData} : gIsi "tuple" [.sh (.list xs)] = some (.sh (.bool false)) := by simp only [gIsi, fz_sh, isDict, isiB, Bool.false_eq_true, if_false] <;> rfl
theorem gi_tuple_tuple {xs : List PyData} : gIsi "tuple" [.sh (.tuple xs)] = some (.sh (.bool true)) := by simp only [gIsi, fz_sh, isDict, isiB, Bool.false_eq_true, if_false] <;> rfl
theorem nl0 : ((0 : Nat) : Int) = 0 := rfl
theorem nl1 : ((1 : Nat) : Int) = 1 := rfl
theorem nl2 : ((2 : Nat) : Int) = 2 := rfl
theorem nl3 : ((3 : Nat) : Int) = 3 := rfl
theorem nl4 : ((4 : Nat) : Int) = 4 := rfl
theorem nl5 : ((5 : Nat) : Int) = 5 := rfl
theorem nl6 : ((6 : Nat) : Int) = 6 := rfl
theorem nl7 : ((7 : Nat) : Int) = 7 := rfl
theorem nl8 : ((8 : Nat) : Int) = 8 := rfl
theorem nl9 : ((9 : Nat) : Int) = 9 := rfl
theorem nl10 : ((10 : Nat) : Int) = 10 := rfl
theorem nl11 : ((11 : Nat) : Int) = 11 := rfl
theorem nl12 : ((12 : Nat) : Int) = 12 := rfl
theorem nl13 : ((13 : Nat) : Int) = 13 := rfl
theorem nl14 : ((14 : Nat) : Int) = 14 := rfl
theorem nl15 : ((15 : Nat) : Int) = 15 := rfl
theorem nl16 : ((16 : Nat) : Int) = 16 := rfl
theorem nl17 : ((17 : Nat) : Int) = 17 := rfl
theorem nl18 : ((18 : Nat) : Int) = 18 := rfl
theorem nl19 : ((19 : Nat) : Int) = 19 := rfl
theorem nl20 : ((20 : Nat) : Int) = 20 := rfl
theorem OwnL.get {K : PySem.W.Frag} {Hf : Hg} : ∀ {vs : List V} {os : List OV} {bs : Bs} {j : Nat} {d : PyData}, OwnL K Hf vs os bs → os[j]? = some (.sh d) → ∃ v, vs[j]? = some v ∧ Rp K Hf v d
  | _, _, _, _, _, .nil, e => by simp at e
  | _, _, _, 0, _, .cons h r, e => by
    simp at e; subst e
    cases h with
    | sh h => exact ⟨_, rfl, h⟩
  | _, _, _, j + 1, d, .cons h r, e => by
    obtain ⟨v, h1, h2⟩ := OwnL.get (j := j) (d := d) r (by simpa using e)
    exact ⟨v, by simpa using h1, h2⟩
section
variable {X : Cx} {W : WX} {e a b c : Expr} {f fk : Rho → Re} {p p2 pos tpos : Pos} {m : Nat}
end
section
variable {X : Cx} {W : WX} {a b : Expr} {fl : Rho → ReL} {fa fb : Rho → Re} {ap cp : Pos} {m : Nat}
end
inductive Laid (H : Hp) : List Addr → List (V × V) → Hp → Prop
  | nil : Laid H [] [] H
  | snoc {Ts : List Addr} {ps : List (V × V)} {H1 : Hp} {T : Addr} {x y : V} : Laid H Ts ps H1 → H1 T = none → Laid H (Ts ++ [T]) (ps ++ [(x, y)]) (upd H1 T (.tup [x, y]))
theorem Laid.len {H H1 : Hp} {Ts : List Addr} {ps : List (V × V)} (l : Laid H Ts ps H1) : Ts.length = ps.length := by
  induction l with
  | nil => rfl
  | snoc _ _ ih => simp [ih]
section
variable {X : Cx} {pins : List (Addr × Obj)} {σ : St}
end
section
variable {X : Cx} {W : WX} {a b : Expr} {ta : TA} {fl : Rho → ReL} {p q pos cpos : Pos} {n : Nat}
end
def subS (o : OV) (e : PyData) : Option PyData := match subO o e with
  | some (.sh c) => some c
  | _ => none
def orP (a b : Option PyData) : Option PyData := match a with
  | some c => some c
  | none => b
def gSubO (o : OV) (e : PyData) : Option PyData := orP (gSubP (fz o) e) (subS o e)
theorem orP_some {c : PyData} {b : Option PyData} : orP (some c) b = some c := nrfl rfl
theorem gSubO_eq {o : OV} {e : PyData} : gSubO o e = orP (gSubP (fz o) e) (subS o e) := nrfl rfl
def eSubO (i : Nat) (fb : Rho → Re) (ρ : Rho) : Re := if isOv ρ i = true then bindE (fb ρ) fun b ρ1 => match ρ1.sl[i]? with
  | some (some o) => ofP (gSubO o (fz b)) ρ1
  | _ => .stk
  else .stk
section
variable {X : Cx} {W : WX} {a b : Expr} {fb : Rho → Re} {pos : Pos} {n : Nat}
theorem subO_post {σ : St} {H : Hp} {Q : VK} {Hf : Hg} {T : Its} {ρ : Rho} {F : Bs} {i : Nat} (s : SI X.K Hf T ρ F σ H) (h : PostE X W Hf T F σ (eSubO i fb ρ) Q) : tOp (rSub X.K) (tVar i) (tE X W fb) σ H Q := by
  unfold eSubO at h
  by_cases ov : isOv ρ i = true
  case neg => rw [if_neg ov] at h; exact h.elim
  rw [if_pos ov] at h
  obtain ⟨o0, q0⟩ := isOv_iff ov
  obtain ⟨v0, hv0, _, _⟩ := s.take q0
  refine ⟨v0, hv0, Hf, T, ρ, F, s, PostE.bind h fun b ρ1 y H1 Hf1 sm s1 h1 => ?_⟩
  cases q : ρ1.sl[i]? with
  | none => simp only [q] at h1; exact h1.elim
  | some z =>
    cases z with
    | none => simp only [q] at h1; exact h1.elim
    | some o =>
      simp only [q] at h1
      obtain ⟨v, hv, s2, _⟩ := s1.take q
      rw [hv0] at hv
      obtain rfl : v0 = v := by injection hv with z; injection z
      have ry : Rp X.K (_ : Hg) y (fz b) := s1.rdH
      have rx : Rp X.K (_ : Hg) v0 (fz o) := s2.rdH
      unfold ofP at h1
      cases q2 : gSubO o (fz b) with
      | none => simp only [q2] at h1; exact h1.elim
      | some c =>
        simp only [q2] at h1
        have own : ∀ {o : OV}, SI X.K Hf1 ((v0, o) :: (y, b) :: T) (ρ1.set i none) F σ H1 → subO o (fz b) = some (.sh c) → rSub X.K v0 y H1 Q := fun {o} s2 e => by
          obtain ⟨its, F2, s3, bk⟩ := s2.ex2
          obtain ⟨w, F1, hq, s4, _⟩ := SX.focus (its := (y, b) :: (T ++ its)) s3 ry e
          exact hq Q (h1 w H1 Hf1 (Same.refl _) (s1.drop.add s4.rp))
        unfold gSubO at q2
        cases q3 : gSubP (fz o) (fz b) with
        | some c' =>
          rw [q3] at q2
          cases q2
          exact opp_sub (Hf1.on H1) v0 y _ _ c Q rx ry q3 fun w hw => h1 w H1 Hf1 (Same.refl _) (s1.drop.add (hw Hf1))
        | none =>
          rw [q3] at q2
          have q2 : subS o (fz b) = some c := q2
          unfold subS at q2
          split at q2
          · rename_i c' e'; cases q2; exact own s2 e'
          · cases q2
theorem ev_subO {i : Nat} (G : Good X W n) (ha : PE X a (tVar i)) (hb : EvE X W b fb) (hs : PlainIx b := by intro _ _; rfl) : EvE X W (.Subscript a b pos) (eSubO i fb) :=
  pe_w (pe_ix (ixAll G) ha hb hs) fun σ H Q ⟨Hf, T, ρ, F, s, h⟩ => subO_post s h
end
def flagsL (x : Str) : List Bool := (excNames.map fun y => decide (x = y)) ++ [true]
section
variable {P : Program} {w : World} {K : PySem.W.Frag} {mg : Str → Option Value} {base : Heap} {ag : Arguments} {bd : List Stmt} {sco : Scope} {f : Addr} {fd : FuncData} {dvs : List V} {kws : List (Str × V)} {qual : Str}
end
section
variable {X : Cx} {p0 p1 p2 p3 p4 p5 p6 p7 p8 p9 : Pos}
end
def Mor (H H' : Hp) : Prop := ∀ b u, H b = some u → H' b = some u
theorem Mor.refl (H : Hp) : Mor H H := fun _ _ h => h
theorem Mor.trans {A B C : Hp} (h : Mor A B) (k : Mor B C) : Mor A C := fun b u q => k b u (h b u q)
theorem Mor.new {H : Hp} {p : Addr} {u : HO} (h : H p = none) : Mor H (upd H p u) := fun b o q => by
  rw [upd_ne (ne_of_none q h)]; exact q
def isS : OV → Bool
  | .sh (.str _) => true
  | _ => false
section
variable {X : Cx} {W : WX} {a : Expr} {f : Rho → Re} {p pos pos' : Pos} {m : Nat} {x : Str}
end
section
variable {X : Cx} {a C dd : Addr} {oe : Obj}
variable {p q pos : Pos} {e : Expr} {es : List Expr} {b : Bool} {bs : List Bool} {x : Str} {tn ev : Expr}
end
section
variable {P : Program} {w : World} {K : PySem.W.Frag} {mg : Str → Option Value} {base : Heap} {ag : Arguments} {bd : List Stmt} {sco : Scope} {f : Addr} {fd : FuncData}
end
theorem SX.flags {K : PySem.W.Frag} {Hf : Hg} {H : Hp} {F : Fr} {p : Addr} (s : SX K Hf [] F H) (hp : H p = none) (bs : List Bool) : SX K Hf [(.ref p, .lst (bs.map fun b => .sh (.bool b)))] F (upd H p (.lst (bs.map V.bl))) := by
  have r : RpAll K Hf (bs.map V.bl) (bs.map PyData.bool) := by
    clear s
    induction bs with
    | nil => exact .nil
    | cons b bs ih => exact .cons (.bl b) ih
  have := SX.mkLst s r hp
  simpa [List.map_map, Function.comp_def] using this
section
variable {X : Cx} {W : WX} {m i j : Nat} {body : List Stmt} {gb : Rho → Out} {np p0 p1 p2 p3 p4 pos pos' : Pos} {x : Str} {ev : Expr}
end
end Ev
namespace EvK
open PySem PySem.HandSPX Builtin Builtin.ObjectAttr
section
variable {prog : Program} {w : World} {A : Around} {E : Value → Shared → Prop} {R : Result → Shared → Prop} {h : Heap} {g : Array GenState} {d : Drawn} {t : Nat} {os : OsState}
variable {nm q : Str} {C N : Addr} {bs bm bmB : List Value} {hdct : Bool} {sn : List Str} {sub : List Value} {ab : Bool} {col : Option Bool} {dd : Option Addr} {k0 k1 k2 k3 k5 : Option Value} {B nid initId : String} {kw : List (Str × Value)}
end
end EvK
namespace Ev
open PySem PySem.Spec L2
open PyProof.Rows hiding St
section
variable {X : Cx} {CX : CXT} {k n : Nat} {fI C : Addr} {fd : FuncData} {ps ks : List Str} {sp : Sp} {x : Str} {p pos pos' : Pos} {e : Expr} {es : List Expr} {kws : List Keyword} {ta tk : TA} {g : List Value → List Value → List Value} {gV : List V → List V → List V}
end
section
variable {X : Cx} {W : WX} {a b : Expr} {f fk : Rho → Re} {p pos pos' kp : Pos} {m : Nat} {x : Str}
end
section
variable {X : Cx} {W : WX} {e : Expr} {es : List Expr} {fl : Rho → ReL} {p pos : Pos} {n m k : Nat} {x : Str} {g : List OV → List SO → Rv}
end
section
variable {P : Program} {w : World} {K : PySem.W.Frag} {mg : Str → Option Value} {base : Heap} {x qual : Str} {ag : Arguments} {bd : List Stmt} {sco : Scope} {f : Addr} {fd : FuncData}
end
section
variable {X : Cx}
end
section
variable {K : PySem.W.Frag} {H : Hg}
end
section
variable {X : Cx} {W : WX} {a b : Expr} {fl : Rho → ReL} {fa fb : Rho → Re} {ap cp : Pos} {m : Nat}
end
section
variable {X : Cx} {W : WX} {a : Expr} {args : List Expr} {name : Str} {fa : Rho → Re} {fl : Rho → ReL} {ap cp : Pos} {g : Str → List PyData → Option OV} {r : V → List V → Hp → VK → Prop}
end
section
variable {X : Cx} {W : WX} {d k v : Expr} {fd fk fv : Rho → Re} {ap cp : Pos} {m : Nat}
end
section
variable {K : PySem.W.Frag} {Hf : Hg} {H : Hp} {its : Its} {F : Fr} {v y : V} {o : OV} {kvs : List (Key × OV)} {q : Key}
end
section
variable {X : Cx} {W : WX} {e a b c d : Expr} {es : List Expr} {fk : Rho → Re} {fl : Rho → ReL} {apos cpos : Pos} {name : Str} {T : String} {r : V → List V → Hp → VK → Prop} {g : OV → List OV → Option (OV × OV)}
end
section
variable {K : PySem.W.Frag} {Hf : Hg} {H : Hp} {its : Its} {F : Fr}
end
section
variable {K : PySem.W.Frag} {Hf : Hg} {H : Hp} {its : Its} {F : Fr}
end
section
variable {X : Cx} {W : WX} {a : Expr} {name : Str} {fa : Rho → Re} {ap cp : Pos} {g : Str → List PyData → Option OV} {r : V → List V → Hp → VK → Prop}
end
inductive R (α : Type) where
  | ok (a : α) | exc (e : Exn) | stk
def R.bind {α β : Type} (q : R α) (k : α → R β) : R β := match q with
  | .ok a => k a
  | .exc e => .exc e
  | .stk => .stk
inductive O (σ : Type) where
  | next (s : σ) | ret (o : OV) | exc (e : Exn) | stk
def O.bind {σ τ : Type} (q : O σ) (k : σ → O τ) : O τ := match q with
  | .next s => k s
  | .ret o => .ret o
  | .exc e => .exc e
  | .stk => .stk
def O.of {σ : Type} (q : R σ) : O σ := match q with
  | .ok s => .next s
  | .exc e => .exc e
  | .stk => .stk
def O.fin {σ : Type} (q : O σ) : R OV := match q with
  | .next _ => .ok (.sh .none)
  | .ret o => .ok o
  | .exc e => .exc e
  | .stk => .stk
section
variable {μ : List SO} {α β σ τ : Type} {q q' : R α} {f : α → R β} {e : Exn}
theorem R.bind_ok {a : α} : R.bind (.ok a) f = f a := nrfl rfl
theorem R.bind_exc : R.bind (.exc e) f = .exc e := nrfl rfl
theorem R.bind_stk : R.bind .stk f = .stk := nrfl rfl
theorem O.bind_next {s : σ} {f : σ → O τ} : O.bind (.next s) f = f s := nrfl rfl
theorem O.bind_ret {o : OV} {f : σ → O τ} : O.bind (.ret o) f = .ret o := nrfl rfl
theorem O.bind_exc {f : σ → O τ} : O.bind (.exc e) f = .exc e := nrfl rfl
theorem O.bind_stk {f : σ → O τ} : O.bind .stk f = .stk := nrfl rfl
theorem O.of_ok {s : σ} : O.of (.ok s) = .next s := nrfl rfl
theorem O.of_exc : O.of (.exc e : R σ) = .exc e := nrfl rfl
theorem O.of_stk : O.of (.stk : R σ) = .stk := nrfl rfl
theorem O.fin_next {s : σ} : O.fin (.next s) = .ok (.sh .none) := nrfl rfl
theorem O.fin_ret {o : OV} : O.fin (.ret o : O σ) = .ok o := nrfl rfl
theorem O.fin_exc : O.fin (.exc e : O σ) = .exc e := nrfl rfl
end
inductive Ps where
  | no | un | ex (o : OV) | fr (d : PyData)
abbrev Pat := List Ps
def Ps.ok : Ps → Option OV → Prop
  | .no, _ => True
  | .un, x => x = none
  | .ex o, x => x = some o
  | .fr d, x => ∃ o, x = some o ∧ fz o = d
def MtL : Pat → Sl → Prop
  | [], [] => True
  | s :: p, x :: ρ => s.ok x ∧ MtL p ρ
  | _, _ => False
theorem MtL.at : ∀ {p : Pat} {ρ : Sl} {i : Nat} {s : Ps}, MtL p ρ → p[i]? = some s → ∃ x, ρ[i]? = some x ∧ s.ok x
  | [], _, _, _, _, h => by simp at h
  | _ :: _, [], _, _, m, _ => m.elim
  | t :: p, x :: ρ, 0, s, m, h => by simp at h; subst h; exact ⟨x, rfl, m.1⟩
  | t :: p, x :: ρ, i + 1, s, m, h => by
    obtain ⟨y, h1, h2⟩ := MtL.at (i := i) (s := s) m.2 (by simpa using h)
    exact ⟨y, by simpa using h1, h2⟩
theorem MtL.set : ∀ {p : Pat} {ρ : Sl} (i : Nat) {s : Ps} {x : Option OV}, MtL p ρ → s.ok x → MtL (p.set i s) (ρ.set i x)
  | [], [], _, _, _, _, _ => trivial
  | [], _ :: _, _, _, _, m, _ => m.elim
  | _ :: _, [], _, _, _, m, _ => m.elim
  | t :: p, y :: ρ, 0, s, x, m, h => ⟨h, m.2⟩
  | t :: p, y :: ρ, i + 1, s, x, m, h => ⟨m.1, MtL.set i m.2 h⟩
def Mt (μ : List SO) (p : Pat) (ρ : Rho) : Prop := MtL p ρ.sl ∧ ρ.st = μ
theorem Mt.at {μ : List SO} {p : Pat} {ρ : Rho} {i : Nat} {s : Ps} (m : Mt μ p ρ) (h : p[i]? = some s) : ∃ x, ρ.sl[i]? = some x ∧ s.ok x := m.1.at h
theorem Mt.set {μ : List SO} {p : Pat} {ρ : Rho} (i : Nat) {s : Ps} {x : Option OV} (m : Mt μ p ρ) (h : s.ok x) : Mt μ (p.set i s) (ρ.set i x) := ⟨m.1.set i h, m.2⟩
theorem set_at {α : Type} : ∀ {l : List α} {i : Nat} {x : α}, l[i]? = some x → l.set i x = l
  | [], _, _, h => by simp at h
  | _ :: _, 0, _, h => by simp at h; subst h; rfl
  | _ :: _, i + 1, _, h => by
    have := set_at (i := i) (by simpa using h)
    simp [this]
inductive Ple : Pat → Pat → Prop
  | nil : Ple [] []
  | eq {s : Ps} {p q : Pat} : Ple p q → Ple (s :: p) (s :: q)
  | no {s : Ps} {p q : Pat} : Ple p q → Ple (s :: p) (.no :: q)
  | fr {o : OV} {p q : Pat} : Ple p q → Ple (.ex o :: p) (.fr (fz o) :: q)
  | fs {d : PyData} {p q : Pat} : Ple p q → Ple (.ex (.sh d) :: p) (.fr d :: q)
theorem Ple.rf : ∀ {p : Pat}, Ple p p
  | [] => .nil
  | _ :: _ => .eq .rf
theorem Ple.mtL : ∀ {p q : Pat} {ρ : Sl}, Ple p q → MtL p ρ → MtL q ρ
  | _, _, [], .nil, m => m
  | _, _, _ :: _, .nil, m => m.elim
  | _, _, [], .eq _, m => m.elim
  | _, _, [], .no _, m => m.elim
  | _, _, [], .fr _, m => m.elim
  | _, _, [], .fs _, m => m.elim
  | _, _, _ :: _, .eq h, m => ⟨m.1, h.mtL m.2⟩
  | _, _, _ :: _, .no h, m => ⟨trivial, h.mtL m.2⟩
  | _, _, _ :: _, .fr h, m => ⟨⟨_, m.1, rfl⟩, h.mtL m.2⟩
  | _, _, _ :: _, .fs h, m => ⟨⟨_, m.1, fz_sh⟩, h.mtL m.2⟩
theorem Ple.mt {μ : List SO} {p q : Pat} {ρ : Rho} (h : Ple p q) (m : Mt μ p ρ) : Mt μ q ρ := ⟨h.mtL m.1, m.2⟩
def jE (μ : List SO) (f : Rho → Re) (p : Pat) (q : R OV) (p' : Pat) : Prop := ∀ ρ, Mt μ p ρ → match q with
  | .ok o => ∃ ρ', f ρ = .ok o ρ' ∧ Mt μ p' ρ'
  | .exc e => ∃ ρ', f ρ = .exc e ρ' ∧ ρ'.st = μ
  | .stk => True
def jL (μ : List SO) (f : Rho → ReL) (p : Pat) (q : R (List OV)) (p' : Pat) : Prop := ∀ ρ, Mt μ p ρ → match q with
  | .ok o => ∃ ρ', f ρ = .ok o ρ' ∧ Mt μ p' ρ'
  | .exc e => ∃ ρ', f ρ = .exc e ρ' ∧ ρ'.st = μ
  | .stk => True
def jB (μ : List SO) (f : Rho → ReB) (p : Pat) (q : R Bool) (p' : Pat) : Prop := ∀ ρ, Mt μ p ρ → match q with
  | .ok o => ∃ ρ', f ρ = .ok o ρ' ∧ Mt μ p' ρ'
  | .exc e => ∃ ρ', f ρ = .exc e ρ' ∧ ρ'.st = μ
  | .stk => True
def jI (μ : List SO) (f : Rho → ReI) (p : Pat) (q : R (List PyData)) (p' : Pat) : Prop := ∀ ρ, Mt μ p ρ → match q with
  | .ok o => ∃ ρ', f ρ = .ok o ρ' ∧ Mt μ p' ρ'
  | .exc e => ∃ ρ', f ρ = .exc e ρ' ∧ ρ'.st = μ
  | .stk => True
def jT (μ : List SO) {τ : Type} (h : OV → Rho → Option Rho) (o : OV) (p : Pat) (q : R τ) (pt : τ → Pat) : Prop := ∀ ρ, Mt μ p ρ → match q with
  | .ok t => ∃ ρ', h o ρ = some ρ' ∧ Mt μ (pt t) ρ'
  | .exc _ => False
  | .stk => True
def jS (μ : List SO) {σ : Type} (g : Rho → Out) (p : Pat) (q : O σ) (st : σ → Pat) : Prop := ∀ ρ, Mt μ p ρ → match q with
  | .next s => ∃ ρ', g ρ = .next ρ' ∧ Mt μ (st s) ρ'
  | .ret o => ∃ ρ', g ρ = .ret o ρ' ∧ ρ'.st = μ
  | .exc e => ∃ ρ', g ρ = .exc e ρ' ∧ ρ'.st = μ
  | .stk => True
def jP (m : List PyData → List SO → Rv) (q : List PyData → R OV) : Prop := ∀ ds μ, match q ds with
  | .ok o => m ds μ = .ok o μ
  | .exc e => m ds μ = .exc e μ
  | .stk => True
section
variable {μ : List SO} {f fa fb fc : Rho → Re} {fl : Rho → ReL} {ta tb : Rho → ReB} {fi : Rho → ReI} {p p1 p2 p3 : Pat} {qa qb qc : R OV} {ql : R (List OV)} {qt qu : R Bool} {qi : R (List PyData)} {d : PyData} {o : OV} {i : Nat} {g g' : OV → OV → Option OV}
theorem jE.wk (h : jE μ f p qa p1) (l : Ple p1 p2) : jE μ f p qa p2 := fun ρ m => by
  have := h ρ m
  cases qa with
  | ok o => obtain ⟨ρ', a, b⟩ := this; exact ⟨ρ', a, l.mt b⟩
  | exc e => exact this
  | stk => trivial
theorem jB.wk (h : jB μ ta p qt p1) (l : Ple p1 p2) : jB μ ta p qt p2 := fun ρ m => by
  have := h ρ m
  cases qt with
  | ok o => obtain ⟨ρ', a, b⟩ := this; exact ⟨ρ', a, l.mt b⟩
  | exc e => exact this
  | stk => trivial
theorem j_c : jE μ (cC d) p (.ok (.sh d)) p := fun ρ m => ⟨ρ, rfl, m⟩
theorem j_vx (h : p[i]? = some (.ex o)) : jE μ (eV i) p (.ok (.sh (fz o))) (p.set i (.ex (.sh (fz o)))) := fun ρ m => by
  obtain ⟨x, h1, rfl⟩ := m.at h
  exact ⟨_, by unfold eV; rw [h1], m.set i rfl⟩
theorem j_v (h : p[i]? = some (.ex (.sh d))) : jE μ (eV i) p (.ok (.sh d)) p := fun ρ m => by
  obtain ⟨x, h1, rfl⟩ := m.at h
  have e : fz (.sh d) = d := fz_sh
  refine ⟨_, by unfold eV; simp only [h1, e]; rfl, ?_⟩
  have := m.set i (s := .ex (.sh d)) (x := some (.sh d)) rfl
  rw [set_at h] at this
  exact this
theorem j_vf (h : p[i]? = some (.fr d)) : jE μ (eV i) p (.ok (.sh d)) p := fun ρ m => by
  obtain ⟨x, h1, o, rfl, h2⟩ := m.at h
  refine ⟨_, by unfold eV; simp only [h1, h2]; rfl, ?_⟩
  have := m.set i (s := .fr d) (x := some (.sh d)) ⟨_, rfl, fz_sh⟩
  rw [set_at h] at this
  exact this
theorem j_m (h : p[i]? = some (.ex o)) : jE μ (eM i) p (.ok o) (p.set i .un) := fun ρ m => by
  obtain ⟨x, h1, rfl⟩ := m.at h
  exact ⟨_, by unfold eM; rw [h1], m.set i rfl⟩
def ofOR (x : Option OV) : R OV := match x with
  | some c => .ok c
  | none => .stk
def ofPR (x : Option PyData) : R OV := match x with
  | some c => .ok (.sh c)
  | none => .stk
theorem ofOR_some : ofOR (some o) = .ok o := nrfl rfl
theorem ofPR_some : ofPR (some d) = .ok (.sh d) := nrfl rfl
theorem j_bin (ha : jE μ fa p qa p1) (hb : jE μ fb p1 qb p2) : jE μ (eBin g fa fb) p (qa.bind fun a => qb.bind fun b => ofOR (g a b)) p2 := fun ρ m => by
  have h1 := ha ρ m
  unfold eBin
  cases qa with
  | stk => trivial
  | exc e => obtain ⟨ρ', a, zs⟩ := h1; exact ⟨ρ', by rw [a]; rfl, zs⟩
  | ok a =>
    obtain ⟨ρ1, a1, m1⟩ := h1
    have h2 := hb ρ1 m1
    rw [a1]
    cases qb with
    | stk => trivial
    | exc e => obtain ⟨ρ', a, zs⟩ := h2; exact ⟨ρ', by simp only [bindE, a], zs⟩
    | ok b =>
      obtain ⟨ρ2, a2, m2⟩ := h2
      simp only [bindE, a2, R.bind]
      cases g a b with
      | none => trivial
      | some c => exact ⟨ρ2, rfl, m2⟩
theorem j_un {g : OV → Option OV} (ha : jE μ fa p qa p1) : jE μ (eUn g fa) p (qa.bind fun a => ofOR (g a)) p1 := fun ρ m => by
  have h1 := ha ρ m
  unfold eUn
  cases qa with
  | stk => trivial
  | exc e => obtain ⟨ρ', a, zs⟩ := h1; exact ⟨ρ', by rw [a]; rfl, zs⟩
  | ok a =>
    obtain ⟨ρ1, a1, m1⟩ := h1
    simp only [a1, bindE, R.bind]
    cases g a with
    | none => trivial
    | some c => exact ⟨ρ1, rfl, m1⟩
theorem j_lnil : jL μ lNil p (.ok []) p := fun ρ m => ⟨ρ, rfl, m⟩
theorem j_lcons (ha : jE μ f p qa p1) (hb : jL μ fl p1 ql p2) : jL μ (lCons f fl) p (qa.bind fun a => ql.bind fun l => .ok (a :: l)) p2 := fun ρ m => by
  have h1 := ha ρ m
  unfold lCons
  cases qa with
  | stk => trivial
  | exc e => obtain ⟨ρ', a, zs⟩ := h1; exact ⟨ρ', by rw [a]; rfl, zs⟩
  | ok a =>
    obtain ⟨ρ1, a1, m1⟩ := h1
    have h2 := hb ρ1 m1
    rw [a1]
    cases ql with
    | stk => trivial
    | exc e => obtain ⟨ρ', a, zs⟩ := h2; exact ⟨ρ', by simp only [bindEL, bindLL, a], zs⟩
    | ok b =>
      obtain ⟨ρ2, a2, m2⟩ := h2
      exact ⟨ρ2, by simp only [bindEL, bindLL, a2], m2⟩
theorem jL.bind {k : List OV → R OV} {kk : List OV → Rho → Re} (h : jL μ fl p ql p1) (hk : ∀ os, jE μ (kk os) p1 (k os) p1) : jE μ (fun ρ => bindL (fl ρ) kk) p (ql.bind k) p1 := fun ρ m => by
  have h1 := h ρ m
  cases ql with
  | stk => trivial
  | exc e => obtain ⟨ρ', a, zs⟩ := h1; exact ⟨ρ', by simp only [a]; rfl, zs⟩
  | ok os =>
    obtain ⟨ρ1, a1, m1⟩ := h1
    have := hk os ρ1 m1
    simp only [a1, bindL, R.bind]
    exact this
def szR {α : Type} (n : Nat) (x : α) : R α := if n ≤ sizeLine then .ok x else .stk
theorem j_tup (h : jL μ fl p ql p1) : jE μ (eTup fl) p (ql.bind fun os => szR os.length (.sh (.tuple (os.map fz)))) p1 := jL.bind h fun os ρ m => by
  unfold szR
  by_cases q : os.length ≤ sizeLine
  · simp only [if_pos q]; exact ⟨ρ, rfl, m⟩
  · simp only [if_neg q]
theorem j_lst (h : jL μ fl p ql p1) : jE μ (eLst fl) p (ql.bind fun os => szR os.length (.lst os)) p1 := jL.bind h fun os ρ m => by
  unfold szR
  by_cases q : os.length ≤ sizeLine
  · simp only [if_pos q]; exact ⟨ρ, rfl, m⟩
  · simp only [if_neg q]
theorem j_fn {g : List OV → Option OV} (h : jL μ fl p ql p1) : jE μ (eFn g fl) p (ql.bind fun os => ofOR (g os)) p1 := jL.bind h fun os ρ m => by
  cases g os with
  | none => trivial
  | some c => exact ⟨ρ, rfl, m⟩
theorem j_call {mm : List PyData → List SO → Rv} {qq : List PyData → R OV} (hc : jP mm qq) (h : jL μ fl p ql p1) : jE μ (eCall mm fl) p (ql.bind fun os => qq (os.map fz)) p1 := jL.bind h fun os ρ m => by
  have := hc (os.map fz) ρ.st
  generalize qq (os.map fz) = z at this
  cases z with
  | stk => trivial
  | exc e => exact ⟨ρ, by simp only [this, ofRv], m.2⟩
  | ok a => exact ⟨ρ, by simp only [this, ofRv], m⟩
def toBR (o : OV) : R Bool := match o with
  | .sh (.bool b) => .ok b
  | _ => .stk
theorem toBR_b {b : Bool} : toBR (.sh (.bool b)) = .ok b := nrfl rfl
theorem j_test (h : jE μ f p qa p1) : jB μ (eTest f) p (qa.bind toBR) p1 := fun ρ m => by
  have h1 := h ρ m
  unfold eTest
  cases qa with
  | stk => trivial
  | exc e => obtain ⟨ρ', a, zs⟩ := h1; exact ⟨ρ', by rw [a]; rfl, zs⟩
  | ok a =>
    obtain ⟨ρ1, a1, m1⟩ := h1
    simp only [a1, bindEB, R.bind]
    cases a with
    | sh d => cases d <;> first | trivial | exact ⟨ρ1, rfl, m1⟩
    | lst _ => trivial
    | dk _ => trivial
    | dt _ => trivial
    | tup _ => trivial
theorem jB.bind {α : Type} {k : Bool → R Bool} {kk : Bool → Rho → ReB} (h : jB μ ta p qt p1) (hk : ∀ os, jB μ (kk os) p1 (k os) p2) : jB μ (fun ρ => bindBB (ta ρ) kk) p (qt.bind k) p2 := fun ρ m => by
  have h1 := h ρ m
  cases qt with
  | stk => trivial
  | exc e => obtain ⟨ρ', a, zs⟩ := h1; exact ⟨ρ', by simp only [a]; rfl, zs⟩
  | ok os =>
    obtain ⟨ρ1, a1, m1⟩ := h1
    have := hk os ρ1 m1
    simp only [a1, bindBB, R.bind]
    exact this
theorem j_not (h : jB μ ta p qt p1) : jB μ (bNot ta) p (qt.bind fun b => .ok (!b)) p1 := jB.bind (α := Bool) h fun b ρ m => ⟨ρ, rfl, m⟩
theorem j_band (ha : jB μ ta p qt p1) (hb : jB μ tb p1 qu p2) (l : Ple p1 p2) : jB μ (bAnd ta tb) p (qt.bind fun b => if b = true then qu else .ok false) p2 := jB.bind (α := Bool) ha fun b => by
  cases b with
  | true => exact hb
  | false => exact fun ρ m => ⟨ρ, rfl, l.mt m⟩
theorem j_bor (ha : jB μ ta p qt p1) (hb : jB μ tb p1 qu p2) (l : Ple p1 p2) : jB μ (bOr ta tb) p (qt.bind fun b => if b = true then .ok true else qu) p2 := jB.bind (α := Bool) ha fun b => by
  cases b with
  | false => exact hb
  | true => exact fun ρ m => ⟨ρ, rfl, l.mt m⟩
def andR (o : OV) (q : R OV) : R OV := match o with
  | .sh (.bool true) => q
  | .sh (.bool false) => .ok (.sh (.bool false))
  | _ => .stk
def orR (o : OV) (q : R OV) : R OV := match o with
  | .sh (.bool true) => .ok (.sh (.bool true))
  | .sh (.bool false) => q
  | _ => .stk
theorem andR_b {b : Bool} {q : R OV} : andR (.sh (.bool b)) q = if b = true then q else .ok (.sh (.bool false)) := by cases b <;> rfl
theorem orR_b {b : Bool} {q : R OV} : orR (.sh (.bool b)) q = if b = true then .ok (.sh (.bool true)) else q := by cases b <;> rfl
theorem jE.bind {k : OV → R OV} {kk : OV → Rho → Re} (h : jE μ f p qa p1) (hk : ∀ o, jE μ (kk o) p1 (k o) p2) : jE μ (fun ρ => bindE (f ρ) kk) p (qa.bind k) p2 := fun ρ m => by
  have h1 := h ρ m
  cases qa with
  | stk => trivial
  | exc e => obtain ⟨ρ', a, zs⟩ := h1; exact ⟨ρ', by simp only [a]; rfl, zs⟩
  | ok os =>
    obtain ⟨ρ1, a1, m1⟩ := h1
    have := hk os ρ1 m1
    simp only [a1, bindE, R.bind]
    exact this
theorem j_and (ha : jE μ fa p qa p1) (hb : jE μ fb p1 qb p2) (l : Ple p1 p2) : jE μ (eAnd fa fb) p (qa.bind fun o => andR o qb) p2 := jE.bind ha fun o ρ m => by
  cases o with
  | sh d =>
    cases d with
    | bool b =>
      cases b with
      | true => exact hb ρ m
      | false => exact ⟨ρ, rfl, l.mt m⟩
    | _ => trivial
  | _ => trivial
theorem j_or (ha : jE μ fa p qa p1) (hb : jE μ fb p1 qb p2) (l : Ple p1 p2) : jE μ (eOr fa fb) p (qa.bind fun o => orR o qb) p2 := jE.bind ha fun o ρ m => by
  cases o with
  | sh d =>
    cases d with
    | bool b =>
      cases b with
      | false => exact hb ρ m
      | true => exact ⟨ρ, rfl, l.mt m⟩
    | _ => trivial
  | _ => trivial
def chR (c : Option OV) (q : R OV) : R OV := match c with
  | some (.sh (.bool true)) => q
  | some (.sh (.bool false)) => .ok (.sh (.bool false))
  | _ => .stk
theorem chR_b {b : Bool} {q : R OV} : chR (some (.sh (.bool b))) q = if b = true then q else .ok (.sh (.bool false)) := by cases b <;> rfl
theorem j_chain (ha : jE μ fa p qa p1) (hb : jE μ fb p1 qb p2) (hc : jE μ fc p2 qc p3) (l : Ple p2 p3) : jE μ (eChain g g' fa fb fc) p (qa.bind fun a => qb.bind fun b => chR (g a b) (qc.bind fun c => ofOR (g' b c))) p3 := jE.bind ha fun a => jE.bind hb fun b ρ m => by
  cases g a b with
  | none => trivial
  | some c =>
    cases c with
    | sh d =>
      cases d with
      | bool b' =>
        cases b' with
        | true =>
          have := jE.bind (kk := fun z ρ3 => ofO (g' b z) ρ3) hc (k := fun c => ofOR (g' b c)) (p2 := p3) (fun z ρ m => by
              show match ofOR (g' b z) with | .ok o => _ | .exc e => _ | .stk => _
              unfold ofOR
              cases g' b z with
              | none => trivial
              | some c => exact ⟨ρ, rfl, m⟩) ρ m
          exact this
        | false => exact ⟨ρ, rfl, l.mt m⟩
      | _ => trivial
    | _ => trivial
def Ps.dat : Ps → Option PyData
  | .ex o => some (fz o)
  | .fr d => some d
  | _ => none
theorem Ps.dat_ok {s : Ps} {x : Option OV} {d : PyData} (h : s.dat = some d) (k : s.ok x) : ∃ o, x = some o ∧ fz o = d := by
  cases s with
  | ex o => cases h; exact ⟨o, k, rfl⟩
  | fr d => cases h; exact k
  | no => cases h
  | un => cases h
theorem j_b1 {g : PyData → Option PyData} {s : Ps} (h : p[i]? = some s) (hs : s.dat = some d) : jE μ (eB1 g i) p (ofPR (g d)) p := fun ρ m => by
  obtain ⟨x, h1, h2⟩ := m.at h
  obtain ⟨o, rfl, rfl⟩ := Ps.dat_ok hs h2
  unfold eB1 ofPR
  simp only [h1]
  cases g (fz o) with
  | none => trivial
  | some c => exact ⟨ρ, rfl, m⟩
def iR (o : OV) : R Int := match o with
  | .sh (.int i) => .ok i
  | _ => .stk
theorem iR_i {i : Int} : iR (.sh (.int i)) = .ok i := nrfl rfl
def jO (μ : List SO) (f : Option (Rho → Re)) (p : Pat) (q : R (Option Int)) (p' : Pat) : Prop := ∀ ρ, Mt μ p ρ → match q with
  | .ok o => ∃ ρ', (∀ k : Option Int → Rho → Re, partR f ρ k = k o ρ') ∧ Mt μ p' ρ'
  | .exc e => ∃ ρ', (∀ k : Option Int → Rho → Re, partR f ρ k = .exc e ρ') ∧ ρ'.st = μ
  | .stk => True
theorem j_ono : jO μ none p (.ok none) p := fun ρ m => ⟨ρ, fun k => rfl, m⟩
theorem j_osome (h : jE μ f p qa p1) : jO μ (some f) p (qa.bind fun o => (iR o).bind fun i => .ok (some i)) p1 := fun ρ m => by
  have h1 := h ρ m
  cases qa with
  | stk => trivial
  | exc e => obtain ⟨ρ', a, zs⟩ := h1; exact ⟨ρ', fun k => by simp only [partR, a]; rfl, zs⟩
  | ok o =>
    obtain ⟨ρ1, a1, m1⟩ := h1
    cases o with
    | sh d =>
      cases d with
      | int i => exact ⟨ρ1, fun k => by simp only [partR, a1, bindE], m1⟩
      | _ => trivial
    | _ => trivial
theorem j_sl {lo hi : Option (Rho → Re)} {ql qh : R (Option Int)} (ha : jE μ fa p qa p1) (hl : jO μ lo p1 ql p2) (hh : jO μ hi p2 qh p3) : jE μ (eSl fa lo hi) p (qa.bind fun a => ql.bind fun l => qh.bind fun h => ofOR (gSl a l h)) p3 := jE.bind ha fun a ρ m => by
  have h1 := hl ρ m
  cases ql with
  | stk => trivial
  | exc e => obtain ⟨ρ', a, zs⟩ := h1; exact ⟨ρ', a _, zs⟩
  | ok l =>
    obtain ⟨ρ1, a1, m1⟩ := h1
    have h2 := hh ρ1 m1
    simp only [a1, R.bind]
    cases qh with
    | stk => trivial
    | exc e => obtain ⟨ρ', a, zs⟩ := h2; exact ⟨ρ', a _, zs⟩
    | ok u =>
      obtain ⟨ρ2, a2, m2⟩ := h2
      simp only [a2]
      unfold ofOR
      cases gSl a l u with
      | none => trivial
      | some c => exact ⟨ρ2, rfl, m2⟩
theorem j_dT : jE μ eDT p (.ok (.dt [])) p := fun ρ m => ⟨ρ, rfl, m⟩
def jPs (μ : List SO) (fps : List ((Rho → Re) × (Rho → Re))) (p : Pat) (q : R (List (OV × OV))) (p' : Pat) : Prop := ∀ ρ, Mt μ p ρ → match q with
  | .ok ps => ∃ ρ', evPs fps ρ = some (ps, ρ') ∧ Mt μ p' ρ'
  | _ => True
def noX {α : Type} (q : R α) : R α := match q with
  | .exc _ => .stk
  | q => q
theorem noX_ok {α : Type} {a : α} : noX (.ok a) = .ok a := nrfl rfl
theorem j_psnil : jPs μ [] p (.ok []) p := fun ρ m => ⟨ρ, rfl, m⟩
theorem j_pscons {fps : List ((Rho → Re) × (Rho → Re))} {qq : R (List (OV × OV))} (ha : jE μ fa p qa p1) (hb : jE μ fb p1 qb p2) (hr : jPs μ fps p2 qq p3) : jPs μ ((fa, fb) :: fps) p (qa.bind fun a => qb.bind fun b => qq.bind fun r => .ok ((a, b) :: r)) p3 := fun ρ m => by
  have h1 := ha ρ m
  cases qa with
  | stk => trivial
  | exc e => trivial
  | ok a =>
    obtain ⟨ρ1, a1, m1⟩ := h1
    have h2 := hb ρ1 m1
    cases qb with
    | stk => trivial
    | exc e => trivial
    | ok b =>
      obtain ⟨ρ2, a2, m2⟩ := h2
      have h3 := hr ρ2 m2
      cases qq with
      | stk => trivial
      | exc e => trivial
      | ok r =>
        obtain ⟨ρ3, a3, m3⟩ := h3
        exact ⟨ρ3, by simp only [evPs, a1, a2, a3], m3⟩
def dictR (ps : List (OV × OV)) : R OV := match keysP ps with
  | some kvs => if kvs.length ≤ 15 ∧ (kvs.map (·.1)).Nodup then .ok (.dk kvs) else .stk
  | none => .stk
theorem j_dict {fps : List ((Rho → Re) × (Rho → Re))} {qq : R (List (OV × OV))} (h : jPs μ fps p qq p1) : jE μ (eDict fps) p ((noX qq).bind dictR) p1 := fun ρ m => by
  have h1 := h ρ m
  cases qq with
  | stk => trivial
  | exc e => trivial
  | ok ps =>
    obtain ⟨ρ1, a1, m1⟩ := h1
    simp only [noX, R.bind]
    unfold dictR eDict
    rw [a1]
    simp only
    cases keysP ps with
    | none => trivial
    | some kvs =>
      by_cases c : kvs.length ≤ 15 ∧ (kvs.map (·.1)).Nodup
      · simp only [if_pos c]; exact ⟨ρ1, rfl, m1⟩
      · simp only [if_neg c]
end
def nd (l : List PyData) (i : Nat) : PyData := l.getD i .none
theorem nd0 {a : PyData} {l : List PyData} : nd (a :: l) 0 = a := nrfl rfl
theorem nd1 {a b : PyData} {l : List PyData} : nd (a :: b :: l) 1 = b := nrfl rfl
theorem nd2 {a b c : PyData} {l : List PyData} : nd (a :: b :: c :: l) 2 = c := nrfl rfl
theorem nd3 {a b c d : PyData} {l : List PyData} : nd (a :: b :: c :: d :: l) 3 = d := nrfl rfl
theorem nd4 {a b c d e : PyData} {l : List PyData} : nd (a :: b :: c :: d :: e :: l) 4 = e := nrfl rfl
theorem nd5 {a b c d e f : PyData} {l : List PyData} : nd (a :: b :: c :: d :: e :: f :: l) 5 = f := nrfl rfl
theorem nd6 {a b c d e f g : PyData} {l : List PyData} : nd (a :: b :: c :: d :: e :: f :: g :: l) 6 = g := nrfl rfl
def unT (n : Nat) (d : PyData) : R (List PyData) := match d with
  | .tuple ds => if ds.length = n then .ok ds else .stk
  | .list ds => if ds.length = n then .ok ds else .stk
  | _ => .stk
section
variable {μ : List SO} {p p1 p2 p3 pc : Pat} {i n k : Nat} {o : OV} {h : OV → Rho → Option Rho} {hs : List PyData → Rho → Option Rho} {t : List PyData}
theorem jt_name : jT μ (hName i) o p (.ok ()) (fun _ => p.set i (.ex o)) := fun ρ m => ⟨_, rfl, m.set i rfl⟩
def jTs (μ : List SO) (n k : Nat) (hs : List PyData → Rho → Option Rho) (t : List PyData) (p p' : Pat) : Prop := t.length = n → ∀ ρ, Mt μ p ρ → ∃ ρ', hs (t.drop k) ρ = some ρ' ∧ Mt μ p' ρ'
theorem jts_nil : jTs μ n n hNil t p p := fun hl ρ m => ⟨ρ, by rw [List.drop_of_length_le (by omega)]; rfl, m⟩
theorem jts_cons (hk : k < n) (h : jTs μ n (k + 1) hs t (p.set i (.ex (.sh (nd t k)))) p1) : jTs μ n k (hCons (hName i) hs) t p p1 := fun hl ρ m => by
  have e : t.drop k = nd t k :: t.drop (k + 1) := by
    have hk' : k < t.length := by omega
    rw [List.drop_eq_getElem_cons hk']
    unfold nd
    rw [List.getD_eq_getElem?_getD, List.getElem?_eq_getElem hk']; rfl
  obtain ⟨ρ', h1, h2⟩ := h hl _ (m.set i (s := .ex (.sh (nd t k))) (x := some (.sh (nd t k))) rfl)
  refine ⟨ρ', ?_, h2⟩
  rw [e]
  exact h1
theorem jt_tup {pt : List PyData → Pat} (h : ∀ t, jTs μ n 0 hs t p (pt t)) : jT μ (hTup n hs) o p (unT n (fz o)) pt := fun ρ m => by
  unfold unT hTup
  generalize fz o = d
  cases d with
  | tuple ds =>
    by_cases q : ds.length = n
    · obtain ⟨ρ', h1, h2⟩ := h ds q ρ m
      simp only [if_pos q]
      exact ⟨ρ', h1, h2⟩
    · simp only [if_neg q]
  | list ds =>
    by_cases q : ds.length = n
    · obtain ⟨ρ', h1, h2⟩ := h ds q ρ m
      simp only [if_pos q]
      exact ⟨ρ', h1, h2⟩
    · simp only [if_neg q]
  | _ => trivial
end
def itR (o : OV) : R (List PyData) := match itemsOf (fz o) with
  | some ds => .ok ds
  | none => .stk
def rng1R (o : OV) : R (List PyData) := match o with
  | .sh (.int j) => if rngOk j = true then .ok (upto 0 j.toNat) else .stk
  | _ => .stk
def rng2R (os : List OV) : R (List PyData) := match os with
  | [.sh (.int i), .sh (.int j)] => if (rngOk i && rngOk j) = true then .ok (upto i (j - i).toNat) else .stk
  | _ => .stk
def enR (o : OV) : R (List PyData) := match itemsOfL (fz o) with
  | some ds => .ok (enumD 0 ds)
  | none => .stk
def zipR (os : List OV) : R (List PyData) := match os with
  | [o, o2] => match fz o, fz o2 with
    | .list ds, .list es => .ok (pairD ds es)
    | .tuple ds, .tuple es => .ok (pairD ds es)
    | _, _ => .stk
  | _ => .stk
section
variable {μ : List SO} {f : Rho → Re} {fl : Rho → ReL} {p p1 : Pat} {q : R OV} {ql : R (List OV)}
theorem j_ival (h : jE μ f p q p1) : jI μ (iVal f) p (q.bind itR) p1 := fun ρ m => by
  have h1 := h ρ m
  cases q with
  | stk => trivial
  | exc e => obtain ⟨ρ', a, zs⟩ := h1; exact ⟨ρ', by unfold iVal; rw [a], zs⟩
  | ok o =>
    obtain ⟨ρ1, a1, m1⟩ := h1
    simp only [R.bind]
    unfold itR iVal
    rw [a1]
    cases e : itemsOf (fz o) with
    | none => trivial
    | some ds => exact ⟨ρ1, by simp only [e], m1⟩
theorem j_ienum (h : jE μ f p q p1) : jI μ (iEnumA f) p (q.bind enR) p1 := fun ρ m => by
  have h1 := h ρ m
  cases q with
  | stk => trivial
  | exc e => obtain ⟨ρ', a, zs⟩ := h1; exact ⟨ρ', by unfold iEnumA; rw [a], zs⟩
  | ok o =>
    obtain ⟨ρ1, a1, m1⟩ := h1
    simp only [R.bind]
    unfold enR iEnumA
    rw [a1]
    cases e : itemsOfL (fz o) with
    | none => trivial
    | some ds => exact ⟨ρ1, by simp only [e], m1⟩
theorem j_irange1 (h : jE μ f p q p1) : jI μ (iRange1 f) p (q.bind rng1R) p1 := fun ρ m => by
  have h1 := h ρ m
  cases q with
  | stk => trivial
  | exc e => obtain ⟨ρ', a, zs⟩ := h1; exact ⟨ρ', by unfold iRange1; rw [a], zs⟩
  | ok o =>
    obtain ⟨ρ1, a1, m1⟩ := h1
    simp only [R.bind]
    unfold rng1R iRange1
    rw [a1]
    cases o with
    | sh d =>
      cases d with
      | int j =>
        by_cases c : rngOk j = true
        · simp only [if_pos c]; exact ⟨ρ1, rfl, m1⟩
        · simp only [if_neg c]
      | _ => trivial
    | _ => trivial
theorem j_izip (h : jL μ fl p ql p1) : jI μ (iZip fl) p (ql.bind zipR) p1 := fun ρ m => by
  have h1 := h ρ m
  cases ql with
  | stk => trivial
  | exc e => obtain ⟨ρ', a, zs⟩ := h1; exact ⟨ρ', by unfold iZip; rw [a], zs⟩
  | ok o =>
    obtain ⟨ρ1, a1, m1⟩ := h1
    simp only [R.bind]
    unfold zipR iZip
    rw [a1]
    match o with
    | [] => trivial
    | [_] => trivial
    | _ :: _ :: _ :: _ => trivial
    | [o, o2] =>
      simp only
      generalize fz o = d1
      generalize fz o2 = d2
      cases d1 with
      | list ds => cases d2 <;> first | trivial | exact ⟨ρ1, rfl, m1⟩
      | tuple ds => cases d2 <;> first | trivial | exact ⟨ρ1, rfl, m1⟩
      | _ => trivial
end
def noP : List Nat → Pat → Pat
  | [], p => p
  | i :: is, p => noP is (p.set i .no)
section
variable {μ : List SO}
theorem fgt_mt : ∀ (vs : List Nat) {p : Pat} {ρ : Rho}, Mt μ p ρ → Mt μ (noP vs p) (fgt vs ρ)
  | [], _, _, m => m
  | i :: is, _, _, m => fgt_mt is (m.set i trivial)
def relP : List Nat → Pat → Pat → Pat
  | [], _, p => p
  | i :: is, p0, p => match p0[i]? with
    | some (.ex (.sh d)) => relP is p0 (p.set i (.ex (.sh d)))
    | _ => relP is p0 (p.set i .no)
theorem MtL.no : ∀ {p : Pat} {ρ : Sl} (i : Nat), MtL p ρ → MtL (p.set i .no) ρ
  | [], [], _, m => m
  | [], _ :: _, _, m => m.elim
  | _ :: _, [], _, m => m.elim
  | t :: p, y :: ρ, 0, m => ⟨trivial, m.2⟩
  | t :: p, y :: ρ, i + 1, m => ⟨m.1, MtL.no i m.2⟩
theorem Mt.no {p : Pat} {ρ : Rho} (i : Nat) (m : Mt μ p ρ) : Mt μ (p.set i .no) ρ := ⟨m.1.no i, m.2⟩
theorem relay_mt : ∀ (vs : List Nat) {p0 p : Pat} {ρ0 ρ : Rho}, Mt μ p0 ρ0 → Mt μ p ρ → Mt μ (relP vs p0 p) (relay vs ρ0 ρ)
  | [], _, _, _, _, _, m => m
  | i :: is, p0, p, ρ0, ρ, m0, m => by
    unfold relP relay
    split
    · rename_i d h
      obtain ⟨x, h1, rfl⟩ := m0.at h
      rw [h1]
      exact relay_mt is m0 (m.set i rfl)
    · split
      · exact relay_mt is m0 (m.set i trivial)
      · exact relay_mt is m0 (m.no i)
end
def lcR (f : PyData → R (Option OV)) : List PyData → R (List OV)
  | [] => .ok []
  | d :: ds => match f d with
    | .ok (some o) => (match lcR f ds with
      | .ok os => .ok (o :: os)
      | _ => .stk)
    | .ok none => lcR f ds
    | _ => .stk
def jK (μ : List SO) (vs : List Nat) (h : OV → Rho → Option Rho) (tt : Rho → ReB) (te : Rho → Re) (d : PyData) (pc : Pat) (q : R (Option OV)) : Prop := ∀ ρ, Mt μ pc ρ → match q with
  | .ok none => ∃ ρ1 ρ2, h (.sh d) ρ = some ρ1 ∧ tt ρ1 = .ok false ρ2 ∧ Mt μ pc (fgt vs ρ2)
  | .ok (some o) => ∃ ρ1 ρ2 ρ3, h (.sh d) ρ = some ρ1 ∧ tt ρ1 = .ok true ρ2 ∧ te ρ2 = .ok o ρ3 ∧ Mt μ pc (fgt vs ρ3)
  | _ => True
section
variable {μ : List SO} {p p1 p2 p3 pc : Pat} {i n k : Nat} {o : OV} {vs : List Nat} {h : OV → Rho → Option Rho} {tt : Rho → ReB} {te : Rho → Re} {d : PyData} {fi : Rho → ReI} {qi : R (List PyData)}
theorem j_turn1 {τ : Type} {qt : R τ} {pt pe : τ → Pat} {qe : τ → R OV} (ht : jT μ h (.sh d) pc qt pt) (he : ∀ t, jE μ te (pt t) (qe t) (pe t)) (l2 : ∀ t, Ple (noP vs (pe t)) pc) :
    jK μ vs h tYesR te d pc (qt.bind fun t => (qe t).bind fun o => .ok (some o)) := fun ρ m => by
  have h1 := ht ρ m
  cases qt with
  | stk => trivial
  | exc e => exact h1.elim
  | ok t =>
    obtain ⟨ρ1, a1, m1⟩ := h1
    have h3 := he t ρ1 m1
    simp only [R.bind]
    generalize qe t = z at h3
    cases z with
    | stk => trivial
    | exc e => trivial
    | ok o =>
      obtain ⟨ρ3, a3, m3⟩ := h3
      exact ⟨ρ1, ρ1, ρ3, a1, rfl, a3, (l2 t).mt (fgt_mt vs m3)⟩
theorem j_turn1N {pe : Pat} {qe : R OV} (he : jE μ te (pc.set i (.ex (.sh d))) qe pe) (l2 : Ple (noP vs pe) pc) :
    jK μ vs (hName i) tYesR te d pc (qe.bind fun o => .ok (some o)) := j_turn1 (qt := .ok ()) (qe := fun _ => qe) jt_name (fun _ => he) (fun _ => l2)
theorem compL_mt {qk : PyData → R (Option OV)} (hk : ∀ d, jK μ vs h tt te d pc (qk d)) : ∀ (ds : List PyData) (os : List OV) (k : Nat) (ρ : Rho), lcR qk ds = .ok os → k + os.length ≤ sizeLine → Mt μ pc ρ → ∃ ρ', compL vs h tt te ds k ρ = .ok os ρ' ∧ Mt μ pc ρ'
  | [], os, k, ρ, e, _, m => by
    unfold lcR at e; cases e
    exact ⟨ρ, rfl, m⟩
  | d :: ds, os, k, ρ, e, l, m => by
    have h1 := hk d ρ m
    unfold lcR at e
    unfold compL
    generalize qk d = z at h1 e
    cases z with
    | stk => cases e
    | exc x => cases e
    | ok x =>
      cases x with
      | none =>
        obtain ⟨ρ1, ρ2, a1, a2, m2⟩ := h1
        obtain ⟨ρ', b1, b2⟩ := compL_mt hk ds os k _ e l m2
        exact ⟨ρ', by simp only [a1, a2]; exact b1, b2⟩
      | some o =>
        obtain ⟨ρ1, ρ2, ρ3, a1, a2, a3, m3⟩ := h1
        simp only at e
        cases q : lcR qk ds with
        | stk => rw [q] at e; cases e
        | exc x => rw [q] at e; cases e
        | ok os2 =>
          rw [q] at e
          cases e
          rw [List.length_cons] at l
          obtain ⟨ρ', b1, b2⟩ := compL_mt hk ds os2 (k + 1) _ q (by omega) m3
          exact ⟨ρ', by simp only [a1, a2, a3]; rw [if_pos (by omega)]; simp only [b1], b2⟩
theorem lcR_noexc {qk : PyData → R (Option OV)} : ∀ {ds : List PyData} {e : Exn}, lcR qk ds ≠ .exc e
  | [], _, h => by unfold lcR at h; cases h
  | d :: ds, e, h => by
    unfold lcR at h
    split at h
    · split at h <;> cases h
    · exact lcR_noexc h
    · cases h
theorem j_lc {qk : PyData → R (Option OV)} (hi : jI μ fi p qi p1) (l : Ple (noP vs p1) pc) (hk : ∀ d, jK μ vs h tt te d pc (qk d)) : jE μ (eLc vs fi h tt te) p (qi.bind fun ds => (lcR qk ds).bind fun os => szR os.length (.lst os)) (relP vs p1 pc) := fun ρ m => by
  have h1 := hi ρ m
  cases qi with
  | stk => trivial
  | exc e => obtain ⟨ρ', a, zs⟩ := h1; exact ⟨ρ', by unfold eLc; rw [a], zs⟩
  | ok ds =>
    obtain ⟨ρ1, a1, m1⟩ := h1
    simp only [R.bind]
    unfold eLc
    rw [a1]
    cases q : lcR qk ds with
    | stk => trivial
    | exc e => exact absurd q lcR_noexc
    | ok os =>
      simp only
      unfold szR
      by_cases c : os.length ≤ sizeLine
      · obtain ⟨ρ', b1, b2⟩ := compL_mt hk ds os 0 (fgt vs ρ1) q (by omega) (l.mt (fgt_mt vs m1))
        simp only [if_pos c, b1]
        exact ⟨_, rfl, relay_mt vs m1 b2⟩
      · simp only [if_neg c]
end
def ownR (T : String) (x : OV) : R Unit := if ownT x = T then .ok () else .stk
def mutR (g : OV → List OV → Option (OV × OV)) (x : OV) (os : List OV) : R (OV × OV) := match g x os with
  | some r => .ok r
  | none => .stk
def setR (x k o : OV) : R OV := match setO x (fz k) o with
  | some c => .ok c
  | none => .stk
def par2R (os : List OV) : R (OV × OV) := match os with
  | [a, b] => .ok (a, b)
  | _ => .stk
def forO {σ : Type} (ds : List PyData) (f : PyData → σ → O σ) (s : σ) : O σ := match ds with
  | [] => .next s
  | d :: ds => (f d s).bind fun s' => forO ds f s'
section
variable {μ : List SO} {σ τ : Type} {p p1 p2 p3 pc : Pat} {i j n k : Nat} {o x x0 : OV} {f fk : Rho → Re} {fl : Rho → ReL} {tc : Rho → ReB} {fi : Rho → ReI} {q qk : R OV} {ql : R (List OV)} {qb : R Bool} {qi : R (List PyData)} {g1 g2 body : Rho → Out} {h : OV → Rho → Option Rho} {st : σ → Pat} {fs : List Nat} {T : String} {g : OV → List OV → Option (OV × OV)}
theorem js_nil {s : σ} (l : Ple p (st s)) : jS μ sNil p (.next s) st := fun ρ m => ⟨ρ, rfl, l.mt m⟩
theorem js_seq {q1 : O τ} {st1 : τ → Pat} {kk : τ → O σ} (h1 : jS μ g1 p q1 st1) (h2 : ∀ s, jS μ g2 (st1 s) (kk s) st) : jS μ (sCons g1 g2) p (q1.bind kk) st := fun ρ m => by
  have a := h1 ρ m
  cases q1 with
  | stk => trivial
  | exc e => obtain ⟨ρ', a, zs⟩ := a; exact ⟨ρ', by unfold sCons; rw [a], zs⟩
  | ret o => obtain ⟨ρ', a, zs⟩ := a; exact ⟨ρ', by unfold sCons; rw [a], zs⟩
  | next s =>
    obtain ⟨ρ1, a, m1⟩ := a
    have b := h2 s ρ1 m1
    simp only [O.bind]
    unfold sCons
    rw [a]
    exact b
theorem js_ofE {st : OV → Pat} {gg : Rho → Out} (h : jE μ f p q p1) (hg : ∀ ρ, gg ρ = bindS (f ρ) fun o ρ1 => .next (ρ1.set i (some o))) : jS μ gg p (O.of q) (fun o => p1.set i (.ex o)) := fun ρ m => by
  have a := h ρ m
  rw [hg]
  cases q with
  | stk => trivial
  | exc e => obtain ⟨ρ', a, zs⟩ := a; exact ⟨ρ', by rw [a]; rfl, zs⟩
  | ok o => obtain ⟨ρ', a, m1⟩ := a; exact ⟨ρ'.set i (some o), by rw [a]; rfl, m1.set i rfl⟩
theorem js_set (h : jE μ f p q p1) : jS μ (sSet i f) p (O.of q) (fun o => p1.set i (.ex o)) := js_ofE (st := fun _ => p) h fun _ => rfl
theorem js_retc (h : jE μ f p q p1) : jS μ (sCons (sRet f) g2) p (O.bind (O.of q) fun o => .ret o) st := fun ρ m => by
  have a := h ρ m
  unfold sCons sRet
  cases q with
  | stk => trivial
  | exc e => obtain ⟨ρ', a, zs⟩ := a; exact ⟨ρ', by rw [a]; rfl, zs⟩
  | ok o => obtain ⟨ρ', a, m1⟩ := a; exact ⟨ρ', by rw [a]; rfl, m1.2⟩
theorem js_if {q1 q2 : O σ} (hc : jB μ tc p qb p1) (h1 : jS μ g1 p1 q1 st) (h2 : jS μ g2 p1 q2 st) : jS μ (sIf tc g1 g2) p (O.bind (O.of qb) fun b => if b = true then q1 else q2) st := fun ρ m => by
  have a := hc ρ m
  unfold sIf
  cases qb with
  | stk => trivial
  | exc e => obtain ⟨ρ', a, zs⟩ := a; exact ⟨ρ', by rw [a]; rfl, zs⟩
  | ok b =>
    obtain ⟨ρ1, a, m1⟩ := a
    rw [a]
    cases b with
    | true => exact h1 ρ1 m1
    | false => exact h2 ρ1 m1
theorem js_asg {qt : OV → R τ} {pt : OV → τ → Pat} {pt' : τ → Pat} (hf : jE μ f p q p1) (ht : ∀ o, jT μ h o p1 (qt o) pt') : jS μ (sAsg h f) p (O.of (q.bind qt)) pt' := fun ρ m => by
  have a := hf ρ m
  unfold sAsg
  cases q with
  | stk => trivial
  | exc e => obtain ⟨ρ', a, zs⟩ := a; exact ⟨ρ', by rw [a]; rfl, zs⟩
  | ok o =>
    obtain ⟨ρ1, a, m1⟩ := a
    have b := ht o ρ1 m1
    rw [a]
    simp only [R.bind, bindS]
    generalize qt o = z at b
    cases z with
    | stk => trivial
    | exc e => exact b.elim
    | ok t => obtain ⟨ρ2, b, m2⟩ := b; exact ⟨ρ2, by rw [b]; rfl, m2⟩
end
section
variable {μ : List SO} {σ τ : Type} {p p1 p2 p3 pc : Pat} {i j n k : Nat} {o x x0 x1 : OV} {f fk : Rho → Re} {fl : Rho → ReL} {tc : Rho → ReB} {fi : Rho → ReI} {q qk : R OV} {ql : R (List OV)} {qb : R Bool} {qi : R (List PyData)} {g1 g2 body : Rho → Out} {h : OV → Rho → Option Rho} {st : σ → Pat} {fs : List Nat} {T : String} {g : OV → List OV → Option (OV × OV)}
theorem forO_mt {fb : PyData → σ → O σ} (hb : ∀ d s, ∀ ρ, Mt μ (st s) ρ → match fb d s with
      | .next s' => ∃ ρ1 ρ2, h (.sh d) ρ = some ρ1 ∧ body ρ1 = .next ρ2 ∧ Mt μ (st s') (fgt fs ρ2)
      | .ret o => ∃ ρ1 ρ2, h (.sh d) ρ = some ρ1 ∧ body ρ1 = .ret o ρ2 ∧ ρ2.st = μ
      | .exc e => ∃ ρ1 ρ2, h (.sh d) ρ = some ρ1 ∧ body ρ1 = .exc e ρ2 ∧ ρ2.st = μ
      | .stk => True) : ∀ (ds : List PyData) (s : σ) (ρ : Rho), Mt μ (st s) ρ → match forO ds fb s with
      | .next s' => ∃ ρ', forL fs h body ds ρ = .next ρ' ∧ Mt μ (st s') ρ'
      | .ret o => ∃ ρ', forL fs h body ds ρ = .ret o ρ' ∧ ρ'.st = μ
      | .exc e => ∃ ρ', forL fs h body ds ρ = .exc e ρ' ∧ ρ'.st = μ
      | .stk => True
  | [], s, ρ, m => ⟨ρ, rfl, m⟩
  | d :: ds, s, ρ, m => by
    have h1 := hb d s ρ m
    unfold forO forL
    generalize fb d s = z at h1
    cases z with
    | stk => trivial
    | exc e => obtain ⟨ρ1, ρ2, a, b, zs⟩ := h1; exact ⟨ρ2, by simp only [a, b], zs⟩
    | ret e => obtain ⟨ρ1, ρ2, a, b, zs⟩ := h1; exact ⟨ρ2, by simp only [a, b], zs⟩
    | next s' =>
      obtain ⟨ρ1, ρ2, a, b, m2⟩ := h1
      simp only [a, b, O.bind]
      exact forO_mt hb ds s' _ m2
theorem js_for {qt : PyData → σ → R τ} {pt : PyData → σ → τ → Pat} {qb : PyData → σ → τ → O σ} {s0 : σ} (hi : jI μ fi p qi p1) (l : Ple (noP fs p1) (st s0)) (ht : ∀ d s, jT μ h (.sh d) (st s) (qt d s) (pt d s)) (hb : ∀ d s t, jS μ body (pt d s t) (qb d s t) st) (hf : ∀ s, noP fs (st s) = st s) :
    jS μ (sFor fs fi h body) p (O.bind (O.of qi) fun ds => forO ds (fun d s => O.bind (O.of (qt d s)) fun t => qb d s t) s0) st := fun ρ m => by
  have a := hi ρ m
  unfold sFor
  cases qi with
  | stk => trivial
  | exc e => obtain ⟨ρ', a, zs⟩ := a; exact ⟨ρ', by rw [a], zs⟩
  | ok ds =>
    obtain ⟨ρ1, a, m1⟩ := a
    rw [a]
    refine forO_mt (fun d s ρ m => ?_) ds s0 _ (l.mt (fgt_mt fs m1))
    have b := ht d s ρ m
    generalize qt d s = z at b
    cases z with
    | stk => trivial
    | exc e => exact b.elim
    | ok t =>
      obtain ⟨ρ1, b, m1⟩ := b
      have c := hb d s t ρ1 m1
      simp only [O.of, O.bind]
      generalize qb d s t = z at c
      cases z with
      | stk => trivial
      | exc e => obtain ⟨ρ2, c, zs⟩ := c; exact ⟨ρ1, ρ2, b, c, zs⟩
      | ret e => obtain ⟨ρ2, c, zs⟩ := c; exact ⟨ρ1, ρ2, b, c, zs⟩
      | next s' =>
        obtain ⟨ρ2, c, m2⟩ := c
        refine ⟨ρ1, ρ2, b, c, ?_⟩
        rw [← hf s']
        exact fgt_mt fs m2
theorem js_forN {qb : PyData → σ → O σ} {s0 : σ} (hi : jI μ fi p qi p1) (l : Ple (noP fs p1) (st s0)) (hb : ∀ d s, jS μ body ((st s).set i (.ex (.sh d))) (qb d s) st) (hf : ∀ s, noP fs (st s) = st s) :
    jS μ (sFor fs fi (hName i) body) p (O.bind (O.of qi) fun ds => forO ds (fun d s => qb d s) s0) st :=
  js_for (qt := fun _ _ => .ok ()) (qb := fun d s _ => qb d s) (pt := fun d s _ => (st s).set i (.ex (.sh d))) hi l (fun d s => jt_name) (fun d s _ => hb d s) hf
theorem js_mut (h0 : p[i]? = some (.ex x0)) (hl : jL μ fl p ql p1) (h1 : p1[i]? = some (.ex x)) : jS μ (sExpr (eMut i T g fl)) p (O.of ((ownR T x0).bind fun _ => ql.bind fun os => (mutR g x os).bind fun r => .ok r.1)) (fun x' => p1.set i (.ex x')) := fun ρ m => by
  obtain ⟨y, a0, rfl⟩ := m.at h0
  unfold ownR sExpr eMut
  rw [a0]
  by_cases c : ownT x0 = T
  · simp only [if_pos c, R.bind]
    have a := hl ρ m
    cases ql with
    | stk => trivial
    | exc e => obtain ⟨ρ', a, zs⟩ := a; exact ⟨ρ', by rw [a]; rfl, zs⟩
    | ok os =>
      obtain ⟨ρ1, a, m1⟩ := a
      obtain ⟨y, a1, rfl⟩ := m1.at h1
      simp only [a, bindL]
      unfold mutR ofM
      rw [a1]
      cases e : g x os with
      | none => trivial
      | some r => exact ⟨ρ1.set i (some r.1), by simp only [e]; rfl, m1.set i rfl⟩
  · simp only [if_neg c, R.bind, O.of]
theorem js_setIx {s : Ps} {d0 : PyData} (hf : jE μ f p q p1) (h1 : p1[i]? = some s) (hs : s.dat = some d0) (hk : jE μ fk p1 qk p2) (h2 : p2[i]? = some (.ex x)) : jS μ (sSetIx i f fk) p (O.of (q.bind fun o => qk.bind fun k => setR x k o)) (fun x' => p2.set i (.ex x')) := fun ρ m => by
  have a := hf ρ m
  unfold sSetIx
  cases q with
  | stk => trivial
  | exc e => obtain ⟨ρ', a, zs⟩ := a; exact ⟨ρ', by rw [a]; rfl, zs⟩
  | ok o =>
    obtain ⟨ρ1, a, m1⟩ := a
    obtain ⟨y, a1, b1⟩ := m1.at h1
    obtain ⟨y', rfl, _⟩ := Ps.dat_ok hs b1
    simp only [a, bindS, R.bind, a1, if_true]
    have b := hk ρ1 m1
    cases qk with
    | stk => trivial
    | exc e => obtain ⟨ρ', b, zs⟩ := b; exact ⟨ρ', by rw [b], zs⟩
    | ok kk =>
      obtain ⟨ρ2, b, m2⟩ := b
      obtain ⟨y, a2, rfl⟩ := m2.at h2
      simp only [b, R.bind]
      unfold setR ofSt
      rw [a2]
      cases e : setO x (fz kk) o with
      | none => trivial
      | some c => exact ⟨ρ2.set i (some c), by simp only [e], m2.set i rfl⟩
theorem js_par (hl : jL μ fl p ql p1) : jS μ (sPar i j fl) p (O.of (ql.bind par2R)) (fun r => (p1.set i (.ex r.1)).set j (.ex r.2)) := fun ρ m => by
  have a := hl ρ m
  unfold sPar
  cases ql with
  | stk => trivial
  | exc e => obtain ⟨ρ', a, zs⟩ := a; exact ⟨ρ', by rw [a], zs⟩
  | ok os =>
    obtain ⟨ρ1, a, m1⟩ := a
    rw [a]
    match os with
    | [] => trivial
    | [_] => trivial
    | _ :: _ :: _ :: _ => trivial
    | [u, v] => exact ⟨_, rfl, (m1.set i (s := .ex u) (x := some u) rfl).set j (s := .ex v) (x := some v) rfl⟩
theorem start_mt (k : Nat) : ∀ ds : List PyData, MtL (ds.map (fun d => Ps.ex (.sh d)) ++ List.replicate k .un) (ds.map (fun d => some (OV.sh d)) ++ List.replicate k none)
  | [] => by
    induction k with
    | zero => trivial
    | succ k ih => exact ⟨rfl, ih⟩
  | d :: ds => ⟨rfl, start_mt k ds⟩
theorem j_def {qq : O σ} {ds : List PyData} {m : Nat} (hb : jS μ body (ds.map (fun d => Ps.ex (.sh d)) ++ List.replicate (m - ds.length) .un) qq st) : match qq.fin with
    | .ok o => runP m body ds μ = .ok o μ
    | .exc e => runP m body ds μ = .exc e μ
    | .stk => True := by
  have a := hb ⟨_, μ⟩ ⟨start_mt _ ds, rfl⟩
  unfold runP
  cases qq with
  | stk => trivial
  | exc e => obtain ⟨ρ', a, zs⟩ := a; simp only [a, O.fin, outRv, zs]
  | ret o => obtain ⟨ρ', a, zs⟩ := a; simp only [a, O.fin, outRv, zs]
  | next s => obtain ⟨ρ', a, zs⟩ := a; simp only [a, O.fin, outRv, zs.2]
end
abbrev gSubI := gII (fun _ _ => true) fun i j => .int (i - j)
abbrev gMulI := gII mulOk fun i j => .int (i * j)
abbrev gModI := gII (fun _ j => decide (0 < j)) fun i j => .int (i % j)
abbrev gDivI := gII divOk fun i j => .int (i / j)
abbrev gPowI := gII powOk fun i j => .int (i ^ j.toNat)
section
variable {μ : List SO} {σ : Type} {ds : List PyData}
theorem forO_nil {f : PyData → σ → O σ} {s : σ} : forO [] f s = .next s := nrfl rfl
theorem forO_cons {f : PyData → σ → O σ} {s : σ} {d : PyData} : forO (d :: ds) f s = (f d s).bind fun s' => forO ds f s' := nrfl rfl
theorem forO_inv {f : PyData → σ → O σ} (I : Nat → σ → Prop) : ∀ (ds : List PyData) (k : Nat) (s : σ), I k s → (∀ j d s, ds[j]? = some d → I (k + j) s → ∃ s', f d s = .next s' ∧ I (k + j + 1) s') → ∃ s', forO ds f s = .next s' ∧ I (k + ds.length) s'
  | [], k, s, h, _ => ⟨s, rfl, h⟩
  | d :: ds, k, s, h, hs => by
    obtain ⟨s1, e1, h1⟩ := hs 0 d s rfl h
    obtain ⟨s2, e2, h2⟩ := forO_inv I ds (k + 1) s1 h1 fun j d' s hj hi => by
      have := hs (j + 1) d' s (by simpa using hj) (by rw [show k + (j + 1) = k + 1 + j by omega]; exact hi)
      rw [show k + (j + 1) + 1 = k + 1 + j + 1 by omega] at this
      exact this
    refine ⟨s2, ?_, by rw [List.length_cons, show k + (ds.length + 1) = k + 1 + ds.length by omega]; exact h2⟩
    rw [forO_cons, e1]
    exact e2
theorem forO_same {f : PyData → σ → O σ} {s : σ} (h : ∀ d ∈ ds, f d s = .next s) : forO ds f s = .next s := by
  induction ds with
  | nil => rfl
  | cons d ds ih => rw [forO_cons, h d List.mem_cons_self]; exact ih fun d' hd => h d' (List.mem_cons_of_mem _ hd)
theorem lcR_map {β : Type} {f : PyData → R (Option OV)} (e : β → PyData) (g : β → OV) : ∀ (xs : List β), (∀ x ∈ xs, f (e x) = .ok (some (g x))) → lcR f (xs.map e) = .ok (xs.map g)
  | [], _ => rfl
  | x :: xs, h => by
    have := lcR_map e g xs fun x' hx => h x' (List.mem_cons_of_mem _ hx)
    rw [List.map_cons, lcR, h x List.mem_cons_self]
    simp only [this, List.map_cons]
theorem szR_ok {α : Type} {n : Nat} {x : α} (h : n ≤ sizeLine) : szR n x = .ok x := if_pos h
theorem upto_eq (n : Nat) : upto 0 n = (List.range n).map fun k => PyData.int ((k : Nat) : Int) := by
  unfold upto
  refine List.map_congr_left fun k _ => ?_
  rw [Int.zero_add]
end
section
variable {μ : List SO} {α : Type} {x : α} {n : Nat} {a b c d e f g : PyData} {os : List OV} {ds : List PyData} {o o' : OV} {i j : Int}
theorem szR_lit (h : n ≤ 63) : szR n x = .ok x := szR_ok (Nat.le_trans h (by decide))
theorem szR_le (h : n ≤ sizeLine) : szR n x = .ok x := szR_ok h
theorem mutR_some {g : OV → List OV → Option (OV × OV)} {r : OV × OV} (h : g o os = some r) : mutR g o os = .ok r := by unfold mutR; rw [h]
theorem mutR_app (h : os.length < sizeLine) : mutR mApp (.lst os) [o] = .ok (.lst (os ++ [o]), .sh .none) := mutR_some (mApp_ok h)
theorem ownR_lst : ownR "list" (.lst os) = .ok () := if_pos rfl
theorem ownR_dk {kvs : List (Key × OV)} : ownR "dict" (.dk kvs) = .ok () := if_pos rfl
theorem ownR_dt {kvs : List (List Key × OV)} : ownR "dict" (.dt kvs) = .ok () := if_pos rfl
theorem itR_tup : itR (.sh (.tuple ds)) = .ok ds := by unfold itR; rw [fz_sh]; rfl
theorem itR_list : itR (.sh (.list ds)) = .ok ds := by unfold itR; rw [fz_sh]; rfl
theorem itR_lst : itR (.lst os) = .ok (os.map fz) := by unfold itR; rw [fz_lst]; rfl
theorem unT_l2 : unT 2 (.tuple [a, b]) = .ok [a, b] := nrfl rfl
theorem unT_l3 : unT 3 (.tuple [a, b, c]) = .ok [a, b, c] := nrfl rfl
theorem unT_l4 : unT 4 (.tuple [a, b, c, d]) = .ok [a, b, c, d] := nrfl rfl
theorem unT_l5 : unT 5 (.tuple [a, b, c, d, e]) = .ok [a, b, c, d, e] := nrfl rfl
theorem unT_l6 : unT 6 (.tuple [a, b, c, d, e, f]) = .ok [a, b, c, d, e, f] := nrfl rfl
theorem unT_l7 : unT 7 (.tuple [a, b, c, d, e, f, g]) = .ok [a, b, c, d, e, f, g] := nrfl rfl
theorem unL_l2 : unT 2 (.list [a, b]) = .ok [a, b] := nrfl rfl
theorem unL_l3 : unT 3 (.list [a, b, c]) = .ok [a, b, c] := nrfl rfl
theorem unL_l4 : unT 4 (.list [a, b, c, d]) = .ok [a, b, c, d] := nrfl rfl
theorem unL_l5 : unT 5 (.list [a, b, c, d, e]) = .ok [a, b, c, d, e] := nrfl rfl
theorem unL_l6 : unT 6 (.list [a, b, c, d, e, f]) = .ok [a, b, c, d, e, f] := nrfl rfl
theorem unL_l7 : unT 7 (.list [a, b, c, d, e, f, g]) = .ok [a, b, c, d, e, f, g] := nrfl rfl
theorem par2R_ok : par2R [o, o'] = .ok (o, o') := nrfl rfl
theorem g1_one {h : PyData → Option OV} : g1 h [o] = h (fz o) := nrfl rfl
theorem dInt_b {z : Bool} : dInt (.bool z) = some (.sh (.int (if z = true then 1 else 0))) := nrfl rfl
theorem dInt_i : dInt (.int i) = some (.sh (.int i)) := nrfl rfl
theorem dAbs_i : dAbs (.int i) = some (.sh (.int (if i < 0 then -i else i))) := nrfl rfl
theorem lcR_nil {q : PyData → R (Option OV)} : lcR q [] = .ok [] := nrfl rfl
theorem rng1R_ok (h : rngOk i = true) : rng1R (.sh (.int i)) = .ok (upto 0 i.toNat) := by unfold rng1R; simp only [h, if_true]
theorem rng2R_ok (h : rngOk i = true) (h2 : rngOk j = true) : rng2R [.sh (.int i), .sh (.int j)] = .ok (upto i (j - i).toNat) := by unfold rng2R; simp only [h, h2, Bool.and_self, if_true]
theorem rng1R_n {k : Nat} (h : k ≤ 1000000000) : rng1R (.sh (.int (k : Nat))) = .ok ((List.range k).map fun z => .int ((z : Nat) : Int)) := by
  rw [rng1R_ok (rngOk_of (by omega) (by omega)), Int.toNat_natCast, upto_eq]
end
theorem gAdd_LL {xs ys : List PyData} (h : xs.length + ys.length ≤ sizeLine) : gAdd (.sh (.list xs)) (.sh (.list ys)) = some (.lst ((xs ++ ys).map .sh)) := by
  unfold gAdd
  simp only [fz_sh, h, if_true]
theorem gAdd_Ll {xs : List PyData} {ys : List OV} (h : xs.length + ys.length ≤ sizeLine) : gAdd (.sh (.list xs)) (.lst ys) = some (.lst ((xs ++ ys.map fz).map .sh)) := by
  unfold gAdd
  simp only [fz_sh, fz_lst, List.length_map, h, if_true]
theorem gAdd_lL {xs : List OV} {ys : List PyData} (h : xs.length + ys.length ≤ sizeLine) : gAdd (.lst xs) (.sh (.list ys)) = some (.lst ((xs.map fz ++ ys).map .sh)) := by
  unfold gAdd
  simp only [fz_sh, fz_lst, List.length_map, h, if_true]
theorem gAdd_TT {xs ys : List PyData} (h : xs.length + ys.length ≤ sizeLine) : gAdd (.sh (.tuple xs)) (.sh (.tuple ys)) = some (.sh (.tuple (xs ++ ys))) := by
  unfold gAdd
  simp only [fz_sh, h, if_true]
theorem gEq_bool {neg a b : Bool} : gEq neg (.sh (.bool a)) (.sh (.bool b)) = some (.sh (.bool (neg ^^ decide (a = b)))) := by
  unfold gEq
  simp only [fz_sh, shaped_bool, and_self, if_true, PyData.eqv]
  cases a <;> cases b <;> rfl
theorem rite_and {p : Prop} [Decidable p] {b : Bool} : (if p then R.ok (OV.sh (.bool b)) else R.ok (OV.sh (.bool false))) = R.ok (.sh (.bool (decide p && b))) := by
  by_cases h : p <;> simp [h]
theorem rite_or {p : Prop} [Decidable p] {b : Bool} : (if p then R.ok (OV.sh (.bool true)) else R.ok (OV.sh (.bool b))) = R.ok (.sh (.bool (decide p || b))) := by
  by_cases h : p <;> simp [h]
theorem rb_and {p : Prop} [Decidable p] {b : Bool} : (if p then R.ok b else R.ok false) = R.ok (decide p && b) := by
  by_cases h : p <;> simp [h]
theorem rb_or {p : Prop} [Decidable p] {b : Bool} : (if p then R.ok true else R.ok b) = R.ok (decide p || b) := by
  by_cases h : p <;> simp [h]
abbrev shL {α : Type} (e : α → PyData) (xs : List α) : OV := .lst (xs.map fun x => .sh (e x))
theorem fz_shL {α : Type} {e : α → PyData} {xs : List α} : fz (shL e xs) = .list (xs.map e) := by
  rw [fz_lst, List.map_map]
  exact congrArg _ (List.map_congr_left fun x _ => fz_sh)
theorem map_fz_shL {α : Type} {e : α → PyData} {xs : List α} : (xs.map fun x => OV.sh (e x)).map fz = xs.map e := by
  rw [List.map_map]
  exact List.map_congr_left fun x _ => fz_sh
theorem forO_gather {σ β γ : Type} {f : PyData → σ → O σ} (e : β → PyData) (en : γ → PyData) (st : OV → σ) (g : β → List γ) (B : Nat) : ∀ (xs : List β) (acc : List γ),
    (∀ x ∈ xs, ∀ a : List γ, a.length + (g x).length ≤ B → f (e x) (st (shL en a)) = .next (st (shL en (a ++ g x)))) → acc.length + (xs.flatMap g).length ≤ B →
    forO (xs.map e) f (st (shL en acc)) = .next (st (shL en (acc ++ xs.flatMap g)))
  | [], acc, _, _ => by simp [forO_nil]
  | x :: xs, acc, h, hB => by
    rw [List.flatMap_cons, List.length_append] at hB
    rw [List.map_cons, forO_cons, h x List.mem_cons_self acc (by omega), O.bind_next]
    have := forO_gather e en st g B xs (acc ++ g x) (fun y hy => h y (List.mem_cons_of_mem _ hy)) (by rw [List.length_append]; omega)
    rw [this, List.flatMap_cons, List.append_assoc]
theorem forO_g0 {β γ : Type} {f : PyData → OV → O OV} (e : β → PyData) (en : γ → PyData) (g : β → List γ) (B : Nat) (xs : List β) (hB : (xs.flatMap g).length ≤ B)
    (h : ∀ x ∈ xs, ∀ a : List γ, a.length + (g x).length ≤ B → f (e x) (shL en a) = .next (shL en (a ++ g x))) : forO (xs.map e) f (.lst []) = .next (shL en (xs.flatMap g)) := by
  exact forO_gather (σ := OV) e en (fun o => o) g B xs [] h (by simpa using hB)
theorem forO_g1 {β γ : Type} {f : PyData → OV → O OV} (e : β → PyData) (en : γ → PyData) (g : β → List γ) (B : Nat) (xs : List β) (acc : List γ) (hB : acc.length + (xs.flatMap g).length ≤ B)
    (h : ∀ x ∈ xs, ∀ a : List γ, a.length + (g x).length ≤ B → f (e x) (shL en a) = .next (shL en (a ++ g x))) : forO (xs.map e) f (shL en acc) = .next (shL en (acc ++ xs.flatMap g)) :=
  forO_gather (σ := OV) e en (fun o => o) g B xs acc h hB
theorem forO_all {σ β : Type} {f : PyData → σ → O σ} {s : σ} {o : OV} (e : β → PyData) (p : β → Bool) : ∀ xs : List β, (∀ x ∈ xs, f (e x) s = if p x = true then .next s else .ret o) → forO (xs.map e) f s = if xs.all p = true then .next s else .ret o
  | [], _ => rfl
  | x :: xs, h => by
    rw [List.map_cons, forO_cons, h x List.mem_cons_self, List.all_cons]
    cases q : p x with
    | false => rfl
    | true =>
      rw [if_pos rfl, Bool.true_and, O.bind_next]
      exact forO_all e p xs fun y hy => h y (List.mem_cons_of_mem _ hy)
theorem app_shL {γ : Type} {en : γ → PyData} {a : List γ} {c : γ} (h : a.length < sizeLine) : mApp (shL en a) [.sh (en c)] = some (shL en (a ++ [c]), .sh .none) := by
  rw [shL, mApp_ok (by rw [List.length_map]; exact h), shL, List.map_append]; rfl
section
variable {μ : List SO} {p p1 p2 p3 : Pat} {i : Nat} {x : OV} {f fk fl : Rho → Re} {q qk ql : R OV} {s : Ps} {d0 : PyData} {b : Int} {gg : Int → Int → Int}
end
end Ev
namespace Ev
end Ev
namespace Ev
open PySem PySem.Spec L2
open PyProof.Rows hiding St
section
variable {μ : List SO} {p p1 p2 : Pat} {fa : Rho → Re} {fl : Rho → ReL} {qa : R OV} {ql : R (List OV)}
end
section
variable {μ : List SO} {p p1 : Pat} {fb : Rho → Re} {qb : R OV} {i : Nat} {s0 : Ps} {d0 d : PyData} {o : OV}
theorem j_bO (h0 : p[i]? = some s0) (hs0 : s0.dat = some d0) (hb : jE μ fb p qb p1) (h : p1[i]? = some (.ex o)) : jE μ (eSubO i fb) p (qb.bind fun b => ofPR (gSubO o (fz b))) p1 := fun ρ m => by
  obtain ⟨x, h1, h2⟩ := m.at h0
  obtain ⟨o', rfl, _⟩ := Ps.dat_ok hs0 h2
  unfold eSubO
  rw [if_pos (by unfold isOv; rw [h1])]
  refine jE.bind hb (kk := fun b ρ1 => match ρ1.sl[i]? with
    | some (some o) => ofP (gSubO o (fz b)) ρ1
    | _ => .stk) (fun b ρ m => ?_) ρ m
  obtain ⟨x, h1, rfl⟩ := m.at h
  simp only [h1]
  unfold ofPR ofP
  cases gSubO o (fz b) with
  | none => trivial
  | some c => exact ⟨ρ, rfl, m⟩
end
def raiseO {σ : Type} (x : Str) (q : R OV) : O σ := match q with
  | .ok o => if isS o = true then .exc ⟨x, .none⟩ else .stk
  | .exc e => .exc e
  | .stk => .stk
theorem raiseO_s {σ : Type} {x z : Str} : raiseO x (.ok (.sh (.str z))) = (.exc ⟨x, .none⟩ : O σ) := nrfl rfl
def flagsO (x : Str) : OV := .lst ((flagsL x).map fun b => .sh (.bool b))
def tryO (q : O OV) : O OV := match q with
  | .exc e => if e.cls ∈ excNames then .next (flagsO e.cls) else .stk
  | q => q
theorem tryO_next {o : OV} : tryO (.next o) = .next o := nrfl rfl
theorem tryO_ret {o : OV} : tryO (.ret o) = .ret o := nrfl rfl
theorem tryO_stk : tryO .stk = .stk := nrfl rfl
section
variable {μ : List SO} {σ : Type} {f : Rho → Re} {g g1 : Rho → Out} {p p1 : Pat} {qa : R OV} {st : σ → Pat} {x : Str} {n i : Nat}
end
def raiseKO {σ : Type} (x : Str) (q qk : R OV) : O σ := match q with
  | .ok o => if isS o = true then (match qk with
    | .ok c => .exc ⟨x, fz c⟩
    | .exc e => .exc e
    | .stk => .stk) else .stk
  | .exc e => .exc e
  | .stk => .stk
theorem raiseKO_s {σ : Type} {x z : Str} {c : OV} : raiseKO x (.ok (.sh (.str z))) (.ok c) = (.exc ⟨x, fz c⟩ : O σ) := nrfl rfl
section
variable {μ : List SO} {σ : Type} {f fk : Rho → Re} {g g1 : Rho → Out} {p p1 p2 : Pat} {qa qk : R OV} {st : σ → Pat} {x : Str} {n i : Nat}
end
section
variable {μ : List SO} {fl : Rho → ReL} {p p1 : Pat} {ql : R (List OV)}
end
section
variable {μ : List SO} {α : Type} {e : α → PyData} {xs : List α} {ds : List PyData} {o : OV} {b : Bool}
theorem itR_shL : itR (shL e xs) = .ok (xs.map e) := by unfold itR; rw [fz_shL]; rfl
theorem ownR_shL : ownR "list" (shL e xs) = .ok () := nrfl rfl
theorem dLenP_l : dLenP (.list ds) = some (.int (ds.length : Nat)) := nrfl rfl
theorem dLenP_t : dLenP (.tuple ds) = some (.int (ds.length : Nat)) := nrfl rfl
theorem gIsiP_ll : gIsiP "list" (.list ds) = some (.bool true) := by rw [gIsiP]; simp [isDict, isiB]
theorem gIsiP_tt : gIsiP "tuple" (.tuple ds) = some (.bool true) := by rw [gIsiP]; simp [isDict, isiB]
theorem gIsiP_tl : gIsiP "tuple" (.list ds) = some (.bool false) := by rw [gIsiP]; simp [isDict, isiB]
theorem gIsiP_lt : gIsiP "list" (.tuple ds) = some (.bool false) := by rw [gIsiP]; simp [isDict, isiB]
end
section
variable {μ : List SO} {p p1 p2 : Pat} {fa : Rho → Re} {fl : Rho → ReL} {qa : R OV} {ql : R (List OV)}
end
section
variable {μ : List SO} {p p1 p2 : Pat} {fa : Rho → Re} {fl : Rho → ReL} {qa : R OV} {ql : R (List OV)} {g : Str → List PyData → Option OV}
end
section
variable {μ : List SO} {p p1 p2 p3 : Pat} {fd fk fv : Rho → Re} {qd qk qv : R OV}
end
section
variable {μ : List SO} {p p1 p2 : Pat} {i : Nat} {x x0 : OV} {fk : Rho → Re} {fl : Rho → ReL} {qk : R OV} {ql : R (List OV)} {T : String} {g : OV → List OV → Option (OV × OV)}
end
section
variable {μ : List SO} {p p1 : Pat} {fa : Rho → Re} {qa : R OV} {g : Str → List PyData → Option OV}
end
end Ev
namespace L2
open PySem PySem.Spec PyProof.Rows
section
variable {X : Cx} {CX : CXT} {k : Nat} {f C : Addr} {fd : FuncData} {ps : List Str} {sp : Sp} {dvs : List V} {ds : List Value} {E : St → XK} {x m : Str} {p pos apos : Pos} {e o : Expr} {es : List Expr} {ta : TE} {t : TA}
end
end L2
namespace Ev
open PySem PySem.Spec L2
open PyProof.Rows hiding St
section
variable {K : PySem.W.Frag} {G G' : Hg}
theorem StoL.get : ∀ {as : List Addr} {os : List SO} {bs : Bs} {n : Nat} {a : Addr} {o : SO}, StoL K G as os bs → as[n]? = some a → os[n]? = some o →
    ∃ b0 b1 b2, bs = b0 ++ b1 ++ b2 ∧ SOwn K G a o b1 ∧ ∀ G' o' b', Ext G G' → SOwn K G' a o' b' → StoL K G' as (os.set n o') (b0 ++ b' ++ b2)
  | _, _, _, _, _, _, .nil, h, _ => by simp at h
  | _, _, _, 0, _, _, .cons (b1 := b1) (b2 := b2) h r, e1, e2 => by
    simp at e1 e2; subst e1 e2
    exact ⟨[], b1, b2, by simp, h, fun G' o' b' ex q => by simpa using StoL.cons q (r.mono ex)⟩
  | _, _, _, n + 1, _, _, .cons (b1 := c1) (b2 := c2) h r, e1, e2 => by
    obtain ⟨b0, b1, b2, e, q, f⟩ := StoL.get (n := n) r (by simpa using e1) (by simpa using e2)
    refine ⟨c1 ++ b0, b1, b2, by rw [e]; simp, q, fun G' o' b' ex q' => ?_⟩
    have := StoL.cons (h.mono ex) (f G' o' b' ex q')
    simpa using this
theorem StoL.snoc : ∀ {as : List Addr} {os : List SO} {bs : Bs} {a : Addr} {o : SO} {b : Bs}, StoL K G as os bs → SOwn K G a o b → StoL K G (as ++ [a]) (os ++ [o]) (bs ++ b)
  | _, _, _, _, _, b, .nil, h => by simpa using StoL.cons h .nil
  | _, _, _, _, _, b, .cons h r, q => by
    have := StoL.cons h (r.snoc q)
    simpa using this
end
section
variable {K : PySem.W.Frag} {Hf : Hg} {H : Hp} {its T : Its} {F : Bs} {a : Addr} {u : HO} {m : List Addr} {v : V} {ρ : Rho} {σ : St}
theorem SX.frChg {l1 l2 : Bs} (nt : ∀ xs, u ≠ .tup xs) (s : SX K Hf its (fr (l1 ++ (a, u) :: l2) m) H) : H a = some u ∧ ∀ u', SX K Hf its (fr (l1 ++ (a, u') :: l2) m) (upd H a u') := by
  obtain ⟨⟨bs, h, n, al⟩, e, mm⟩ := s
  have al : ∀ p ∈ bs ++ (l1 ++ (a, u) :: l2), H p.1 = some p.2 ∧ Fre Hf p := al
  have n : ((bs ++ (l1 ++ (a, u) :: l2)).map (·.1)).Nodup := n
  have h0 := al (a, u) (by simp)
  refine ⟨h0.1, fun u' => ⟨⟨bs, h, ?_, fun p hp => ?_⟩, Ext.mkOn fun b x q => ?_, mm⟩⟩
  · show ((bs ++ (l1 ++ (a, u') :: l2)).map (·.1)).Nodup
    simpa using n
  · have hp : p ∈ bs ++ (l1 ++ (a, u') :: l2) := hp
    have P : (bs ++ (l1 ++ (a, u') :: l2)).Perm ((a, u') :: (bs ++ (l1 ++ l2))) := by
      rw [← List.append_assoc, ← List.append_assoc]
      exact List.perm_middle
    have P0 : (bs ++ (l1 ++ (a, u) :: l2)).Perm ((a, u) :: (bs ++ (l1 ++ l2))) := by
      rw [← List.append_assoc, ← List.append_assoc]
      exact List.perm_middle
    have n2 : (a :: ((bs ++ (l1 ++ l2)).map (·.1))).Nodup := nodup_perm P0 n
    rcases List.mem_cons.mp (P.mem_iff.mp hp) with rfl | hp
    · exact ⟨upd_same, .inl (h0.2.no nt)⟩
    · have ne : p.1 ≠ a := fun z => (List.nodup_cons.mp n2).1 (List.mem_map.mpr ⟨p, hp, z⟩)
      rw [upd_ne ne]
      exact al p (P0.mem_iff.mpr (List.mem_cons_of_mem _ hp))
  · have ne : b ≠ a := fun z => by rw [z, h0.2.no nt] at q; cases q
    rw [upd_ne ne]; exact e.1 b x q
theorem SI.obj {n : Nat} {o : SO} (s : SI K Hf T ρ F σ H) (h : ρ.st[n]? = some o) (r : Rp K Hf v (hdl n)) : ∃ a b1, v = .ref a ∧ SOwn K Hf a o b1 ∧ (∀ p ∈ b1, H p.1 = some p.2) ∧
    ∀ o' u u' rs, b1 = (a, u) :: rs → SOwn K Hf a o' ((a, u') :: rs) → SI K Hf T ⟨ρ.sl, ρ.st.set n o'⟩ F σ (upd H a u') := by
  obtain ⟨its, sb, hs, t, sx⟩ := s.ex
  obtain ⟨a, rfl, hm⟩ := r.hdl
  obtain ⟨b0, b1, b2, rfl, q, f⟩ := t.get hm h
  refine ⟨a, b1, rfl, q, fun p hp => ?_, fun o' u u' rs e q' => ?_⟩
  · obtain ⟨⟨bs, _, _, al⟩, _⟩ := sx
    exact (al p (List.mem_append_right _ (List.mem_append_left _ (List.mem_append_left _ (List.mem_append_right _ hp))))).1
  · subst e
    have e1 : ∀ w, (b0 ++ (a, w) :: rs ++ b2) ++ F = b0 ++ (a, w) :: (rs ++ b2 ++ F) := fun w => by simp
    rw [e1] at sx
    refine ⟨its, _, hs, f Hf o' ((a, u') :: rs) (Ext.refl _) q', ?_⟩
    rw [e1]
    exact (sx.frChg (by cases q <;> (intro _ z; cases z))).2 u'
theorem SX.growM {m' : List Addr} (s : SX K Hf its (fr F m) H) : SX K ⟨Hf.h, m ++ m'⟩ its (fr F (m ++ m')) H ∧ Same Hf ⟨Hf.h, m ++ m'⟩ := by
  obtain ⟨⟨bs, h, n, al⟩, e, mm⟩ := s
  have sm : Same Hf ⟨Hf.h, m ++ m'⟩ := ⟨fun _ _ q => .inl q, m', by rw [show Hf.m = m from mm]⟩
  exact ⟨⟨⟨bs, h.mono sm, n, al⟩, Ext.mkOn e.1, rfl⟩, sm⟩
end
def hdOf : PyData → Option Nat
  | .dict [(.none, .int i)] => if 0 ≤ i then some i.toNat else none
  | _ => none
theorem hdOf_hdl {n : Nat} : hdOf (hdl n) = some n := by
  unfold hdOf hdl
  simp
theorem hdOf_some {d : PyData} {n : Nat} (h : hdOf d = some n) : d = hdl n := by
  unfold hdOf at h
  split at h
  · split at h
    · rename_i i hi
      cases h
      unfold hdl
      have : Int.ofNat i.toNat = i := Int.toNat_of_nonneg hi
      rw [this]
    · cases h
  · cases h
def objOf (st : List SO) (d : PyData) : Option SO := match hdOf d with
  | some n => st[n]?
  | none => none
theorem objOf_some {st : List SO} {d : PyData} {o : SO} (h : objOf st d = some o) : ∃ n, d = hdl n ∧ st[n]? = some o := by
  unfold objOf at h
  split at h
  · rename_i n hn
    exact ⟨n, hdOf_some hn, h⟩
  · cases h
theorem objOf_hdl {st : List SO} {n : Nat} : objOf st (hdl n) = st[n]? := by unfold objOf; rw [hdOf_hdl]
section
variable {K : PySem.W.Frag} {G : Hg}
end
section
variable {X : Cx} {W : WX} {e a b o : Expr} {es : List Expr} {f fa fb fo f0 : Rho → Re} {fl : Rho → ReL} {pos pos' apos p : Pos} {m k n : Nat} {c x mn : Str} {g : List PyData → List SO → Rv}
theorem SI.ins {K : PySem.W.Frag} {Hf : Hg} {T : Its} {ρ : Rho} {F : Bs} {σ : St} {H : Hp} {v : V} {o : OV} {c' : Str} {fs : List (Str × PyData)} (s : SI K Hf ((v, o) :: T) ρ F σ H) (h : objOf ρ.st (fz o) = some (.ins c' fs)) :
    ∃ (a : Addr) (n : Nat) (dx : Addr) (ns : List Str) (vs : List V) (ds : List PyData) (Hf' : Hg), v = .ref a ∧ fz o = hdl n ∧ ρ.st[n]? = some (.ins c' fs) ∧ H a = some (.ins (He.ga K c') dx (ns.zip vs)) ∧ ns.length = vs.length ∧ fs = ns.zip ds ∧ Same Hf Hf' ∧ SI K Hf' ((v, .sh (hdl n)) :: T) ρ F σ H ∧ RpAll K Hf' vs ds := by
  obtain ⟨n, e, hn⟩ := objOf_some h
  obtain ⟨Hf', sm, s2⟩ := s.freeze
  rw [e] at s2
  obtain ⟨a, b1, rfl, so, al, _⟩ := s2.obj hn s2.rp
  cases so with
  | @ins dx _ ns vs ds l r => exact ⟨a, n, dx, ns, vs, ds, Hf', rfl, e, hn, al (a, .ins (He.ga K c') dx (ns.zip vs)) List.mem_cons_self, l, rfl, sm, s2, r⟩
end
section
variable {K : PySem.W.Frag} {Hf : Hg} {T : Its} {ρ : Rho} {F : Bs} {σ : St} {H : Hp} {v : V} {o : OV} {c : PyData}
end
section
variable {K : PySem.W.Frag}
end
section
variable {X : Cx} {W : WX} {e a b o : Expr} {es : List Expr} {f fa fb fo f0 fk : Rho → Re} {fl : Rho → ReL} {pos pos' apos cpos p : Pos} {m k n i : Nat} {name : Str}
end
section
variable {P : Program} {w : World} {K : PySem.W.Frag} {mg : Str → Option Value} {base : Heap} {x qual c m : Str} {ag : Arguments} {bd : List Stmt} {sco : Scope} {f : Addr} {fd : FuncData} {dvs : List V} {kws : List (Str × V)}
end
inductive XR (α : Type) where
  | ok (a : α) (μ : List SO) | exc (e : Exn) (μ : List SO) | stk
def XR.bind {α β : Type} (q : XR α) (k : α → List SO → XR β) : XR β := match q with
  | .ok a μ => k a μ
  | .exc e μ => .exc e μ
  | .stk => .stk
def XR.of {α : Type} (μ : List SO) (q : R α) : XR α := match q with
  | .ok a => .ok a μ
  | .exc e => .exc e μ
  | .stk => .stk
inductive OX (σ : Type) where
  | next (s : σ) (μ : List SO) | ret (o : OV) (μ : List SO) | exc (e : Exn) (μ : List SO) | stk
def OX.bind {σ τ : Type} (q : OX σ) (k : σ → List SO → OX τ) : OX τ := match q with
  | .next s μ => k s μ
  | .ret o μ => .ret o μ
  | .exc e μ => .exc e μ
  | .stk => .stk
def OX.of {σ : Type} (q : XR σ) : OX σ := match q with
  | .ok s μ => .next s μ
  | .exc e μ => .exc e μ
  | .stk => .stk
def OX.lift {σ : Type} (μ : List SO) (q : O σ) : OX σ := match q with
  | .next s => .next s μ
  | .ret o => .ret o μ
  | .exc e => .exc e μ
  | .stk => .stk
def OX.fin {σ : Type} (q : OX σ) : XR OV := match q with
  | .next _ μ => .ok (.sh .none) μ
  | .ret o μ => .ok o μ
  | .exc e μ => .exc e μ
  | .stk => .stk
section
variable {α β σ τ : Type} {μ : List SO} {e : Exn} {f : α → List SO → XR β} {g : σ → List SO → OX τ} {a : α} {s : σ} {o : OV}
theorem XR.bind_ok : XR.bind (.ok a μ) f = f a μ := nrfl rfl
theorem XR.bind_exc : XR.bind (.exc e μ) f = .exc e μ := nrfl rfl
theorem XR.bind_stk : XR.bind .stk f = .stk := nrfl rfl
theorem XR.of_ok : XR.of μ (.ok a) = .ok a μ := nrfl rfl
theorem XR.of_exc : XR.of μ (.exc e : R α) = .exc e μ := nrfl rfl
theorem XR.of_stk : XR.of μ (.stk : R α) = .stk := nrfl rfl
theorem OX.bind_next : OX.bind (.next s μ) g = g s μ := nrfl rfl
theorem OX.bind_ret : OX.bind (.ret o μ) g = .ret o μ := nrfl rfl
theorem OX.bind_exc : OX.bind (.exc e μ) g = .exc e μ := nrfl rfl
theorem OX.bind_stk : OX.bind .stk g = .stk := nrfl rfl
theorem OX.of_ok : OX.of (.ok s μ) = .next s μ := nrfl rfl
theorem OX.of_exc : OX.of (.exc e μ : XR σ) = .exc e μ := nrfl rfl
theorem OX.of_stk : OX.of (.stk : XR σ) = .stk := nrfl rfl
theorem OX.lift_next : OX.lift μ (.next s) = .next s μ := nrfl rfl
theorem OX.lift_ret : OX.lift μ (.ret o : O σ) = .ret o μ := nrfl rfl
theorem OX.lift_exc : OX.lift μ (.exc e : O σ) = .exc e μ := nrfl rfl
theorem OX.fin_next : OX.fin (.next s μ) = .ok (.sh .none) μ := nrfl rfl
theorem OX.fin_ret : OX.fin (.ret o μ : OX σ) = .ok o μ := nrfl rfl
theorem OX.fin_exc : OX.fin (.exc e μ : OX σ) = .exc e μ := nrfl rfl
end
def jXE (μ : List SO) (f : Rho → Re) (p : Pat) (q : XR OV) (p' : Pat) : Prop := ∀ ρ, Mt μ p ρ → match q with
  | .ok o μ' => ∃ ρ', f ρ = .ok o ρ' ∧ Mt μ' p' ρ'
  | .exc e μ' => ∃ ρ', f ρ = .exc e ρ' ∧ ρ'.st = μ'
  | .stk => True
def jXL (μ : List SO) (f : Rho → ReL) (p : Pat) (q : XR (List OV)) (p' : Pat) : Prop := ∀ ρ, Mt μ p ρ → match q with
  | .ok o μ' => ∃ ρ', f ρ = .ok o ρ' ∧ Mt μ' p' ρ'
  | .exc e μ' => ∃ ρ', f ρ = .exc e ρ' ∧ ρ'.st = μ'
  | .stk => True
def jXB (μ : List SO) (f : Rho → ReB) (p : Pat) (q : XR Bool) (p' : Pat) : Prop := ∀ ρ, Mt μ p ρ → match q with
  | .ok o μ' => ∃ ρ', f ρ = .ok o ρ' ∧ Mt μ' p' ρ'
  | .exc e μ' => ∃ ρ', f ρ = .exc e ρ' ∧ ρ'.st = μ'
  | .stk => True
def jXS {σ : Type} (μ : List SO) (g : Rho → Out) (p : Pat) (q : OX σ) (st : σ → Pat) : Prop := ∀ ρ, Mt μ p ρ → match q with
  | .next s μ' => ∃ ρ', g ρ = .next ρ' ∧ Mt μ' (st s) ρ'
  | .ret o μ' => ∃ ρ', g ρ = .ret o ρ' ∧ ρ'.st = μ'
  | .exc e μ' => ∃ ρ', g ρ = .exc e ρ' ∧ ρ'.st = μ'
  | .stk => True
def jXP (m : List PyData → List SO → Rv) (q : List PyData → List SO → XR OV) : Prop := ∀ ds μ, match q ds μ with
  | .ok o μ' => m ds μ = .ok o μ'
  | .exc e μ' => m ds μ = .exc e μ'
  | .stk => True
def jRP (m : List PyData → List SO → Rv) (q : List PyData → List SO → R OV) : Prop := ∀ ds μ, match q ds μ with
  | .ok o => m ds μ = .ok o μ
  | .exc e => m ds μ = .exc e μ
  | .stk => True
section
variable {μ : List SO} {σ τ : Type} {f fa fb f0 : Rho → Re} {fl : Rho → ReL} {ta tb tc : Rho → ReB} {fi : Rho → ReI} {g1 g2 body : Rho → Out} {p p1 p2 p3 : Pat} {q q0 : R OV} {qL : R (List OV)} {qB : R Bool} {qi : R (List PyData)} {qa : XR OV} {ql : XR (List OV)} {qt : XR Bool} {qb : List SO → XR OV} {qs : O σ} {st : σ → Pat} {c xn mn : Str} {i n : Nat} {d : PyData} {h : OV → Rho → Option Rho} {fs : List Nat}
theorem jE.x (hh : jE μ f p q p1) : jXE μ f p (.of μ q) p1 := fun ρ m => by
  have := hh ρ m
  cases q <;> exact this
theorem jL.x (hh : jL μ fl p qL p1) : jXL μ fl p (.of μ qL) p1 := fun ρ m => by
  have := hh ρ m
  cases qL <;> exact this
theorem jB.x (hh : jB μ ta p qB p1) : jXB μ ta p (.of μ qB) p1 := fun ρ m => by
  have := hh ρ m
  cases qB <;> exact this
theorem jS.x (hh : jS μ g1 p qs st) : jXS μ g1 p (.lift μ qs) st := fun ρ m => by
  have := hh ρ m
  cases qs <;> exact this
theorem jXE.wk (hh : jXE μ f p qa p1) (l : Ple p1 p2) : jXE μ f p qa p2 := fun ρ m => by
  have := hh ρ m
  cases qa with
  | ok o μ' => obtain ⟨ρ', a, b⟩ := this; exact ⟨ρ', a, l.mt b⟩
  | exc e μ' => exact this
  | stk => trivial
theorem jXB.wk (hh : jXB μ ta p qt p1) (l : Ple p1 p2) : jXB μ ta p qt p2 := fun ρ m => by
  have := hh ρ m
  cases qt with
  | ok o μ' => obtain ⟨ρ', a, b⟩ := this; exact ⟨ρ', a, l.mt b⟩
  | exc e μ' => exact this
  | stk => trivial
theorem jXE.bind {k : OV → List SO → XR OV} {kk : OV → Rho → Re} (hh : jXE μ f p qa p1) (hk : ∀ o μ', jXE μ' (kk o) p1 (k o μ') p2) : jXE μ (fun ρ => bindE (f ρ) kk) p (qa.bind k) p2 := fun ρ m => by
  have h1 := hh ρ m
  cases qa with
  | stk => trivial
  | exc e μ' => obtain ⟨ρ', a, zs⟩ := h1; exact ⟨ρ', by simp only [a]; rfl, zs⟩
  | ok o μ' =>
    obtain ⟨ρ1, a1, m1⟩ := h1
    have := hk o μ' ρ1 m1
    simp only [a1, bindE, XR.bind]
    exact this
theorem jXL.bind {k : List OV → List SO → XR OV} {kk : List OV → Rho → Re} (hh : jXL μ fl p ql p1) (hk : ∀ o μ', jXE μ' (kk o) p1 (k o μ') p2) : jXE μ (fun ρ => bindL (fl ρ) kk) p (ql.bind k) p2 := fun ρ m => by
  have h1 := hh ρ m
  cases ql with
  | stk => trivial
  | exc e μ' => obtain ⟨ρ', a, zs⟩ := h1; exact ⟨ρ', by simp only [a]; rfl, zs⟩
  | ok o μ' =>
    obtain ⟨ρ1, a1, m1⟩ := h1
    have := hk o μ' ρ1 m1
    simp only [a1, bindL, XR.bind]
    exact this
theorem jP.x {mm : List PyData → List SO → Rv} {qq : List PyData → R OV} (hc : jP mm qq) : jXP mm (fun ds μ => .of μ (qq ds)) := fun ds μ => by
  have := hc ds μ
  show match XR.of μ (qq ds) with | .ok o μ' => _ | .exc e μ' => _ | .stk => True
  generalize qq ds = z at this
  cases z <;> exact this
theorem jRP.x {mm : List PyData → List SO → Rv} {qq : List PyData → List SO → R OV} (hc : jRP mm qq) : jXP mm (fun ds μ => .of μ (qq ds μ)) := fun ds μ => by
  have := hc ds μ
  show match XR.of μ (qq ds μ) with | .ok o μ' => _ | .exc e μ' => _ | .stk => True
  generalize qq ds μ = z at this
  cases z <;> exact this
def mkX (n : Nat) (q : XR OV) : XR OV := match q with
  | .ok (.sh .none) μ => .ok (.sh (hdl n)) μ
  | .exc e μ => .exc e μ
  | _ => .stk
theorem mkX_ok {n : Nat} : mkX n (.ok (.sh .none) μ) = .ok (.sh (hdl n)) μ := nrfl rfl
theorem mkX_exc {n : Nat} {e : Exn} : mkX n (.exc e μ) = .exc e μ := nrfl rfl
theorem jXB.bind {k : Bool → List SO → XR Bool} {kk : Bool → Rho → ReB} (hh : jXB μ ta p qt p1) (hk : ∀ b μ', jXB μ' (kk b) p1 (k b μ') p2) : jXB μ (fun ρ => bindBB (ta ρ) kk) p (qt.bind k) p2 := fun ρ m => by
  have h1 := hh ρ m
  cases qt with
  | stk => trivial
  | exc e μ' => obtain ⟨ρ', a, zs⟩ := h1; exact ⟨ρ', by simp only [a]; rfl, zs⟩
  | ok b μ' =>
    obtain ⟨ρ1, a1, m1⟩ := h1
    have := hk b μ' ρ1 m1
    simp only [a1, bindBB, XR.bind]
    exact this
def andX (o : OV) (μ : List SO) (q : XR OV) : XR OV := match o with
  | .sh (.bool true) => q
  | .sh (.bool false) => .ok (.sh (.bool false)) μ
  | _ => .stk
def orX (o : OV) (μ : List SO) (q : XR OV) : XR OV := match o with
  | .sh (.bool true) => .ok (.sh (.bool true)) μ
  | .sh (.bool false) => q
  | _ => .stk
theorem andX_b {b : Bool} {q : XR OV} : andX (.sh (.bool b)) μ q = if b = true then q else .ok (.sh (.bool false)) μ := by cases b <;> rfl
theorem orX_b {b : Bool} {q : XR OV} : orX (.sh (.bool b)) μ q = if b = true then .ok (.sh (.bool true)) μ else q := by cases b <;> rfl
theorem js_xnil {s : σ} (l : Ple p (st s)) : jXS μ sNil p (.next s μ) st := fun ρ m => ⟨ρ, rfl, l.mt m⟩
theorem js_xseq {q1 : OX τ} {st1 : τ → Pat} {kk : τ → List SO → OX σ} (h1 : jXS μ g1 p q1 st1) (h2 : ∀ s μ', jXS μ' g2 (st1 s) (kk s μ') st) : jXS μ (sCons g1 g2) p (q1.bind kk) st := fun ρ m => by
  have a := h1 ρ m
  cases q1 with
  | stk => trivial
  | exc e μ' => obtain ⟨ρ', a, zs⟩ := a; exact ⟨ρ', by unfold sCons; rw [a], zs⟩
  | ret o μ' => obtain ⟨ρ', a, zs⟩ := a; exact ⟨ρ', by unfold sCons; rw [a], zs⟩
  | next s μ' =>
    obtain ⟨ρ1, a, m1⟩ := a
    have b := h2 s μ' ρ1 m1
    simp only [OX.bind]
    unfold sCons
    rw [a]
    exact b
theorem js_xset (hh : jXE μ f p qa p1) : jXS μ (sSet i f) p (OX.of qa) (fun o => p1.set i (.ex o)) := fun ρ m => by
  have a := hh ρ m
  unfold sSet
  cases qa with
  | stk => trivial
  | exc e μ' => obtain ⟨ρ', a, zs⟩ := a; exact ⟨ρ', by rw [a]; rfl, zs⟩
  | ok o μ' => obtain ⟨ρ', a, m1⟩ := a; exact ⟨ρ'.set i (some o), by rw [a]; rfl, m1.set i rfl⟩
theorem js_xretc (hh : jXE μ f p qa p1) : jXS μ (sCons (sRet f) g2) p (OX.bind (OX.of qa) fun o μ' => .ret o μ') st := fun ρ m => by
  have a := hh ρ m
  unfold sCons sRet
  cases qa with
  | stk => trivial
  | exc e μ' => obtain ⟨ρ', a, zs⟩ := a; exact ⟨ρ', by rw [a]; rfl, zs⟩
  | ok o μ' => obtain ⟨ρ', a, m1⟩ := a; exact ⟨ρ', by rw [a]; rfl, m1.2⟩
def forX (ds : List PyData) (f : PyData → σ → List SO → OX σ) (s : σ) (μ : List SO) : OX σ := match ds with
  | [] => .next s μ
  | d :: ds => (f d s μ).bind fun s' μ' => forX ds f s' μ'
theorem forX_nil {f : PyData → σ → List SO → OX σ} {s : σ} : forX [] f s μ = .next s μ := nrfl rfl
theorem forX_cons {f : PyData → σ → List SO → OX σ} {s : σ} {d : PyData} {ds : List PyData} : forX (d :: ds) f s μ = (f d s μ).bind fun s' μ' => forX ds f s' μ' := nrfl rfl
theorem forX_mt {fb : PyData → σ → List SO → OX σ} (hb : ∀ d s μ, ∀ ρ, Mt μ (st s) ρ → match fb d s μ with
      | .next s' μ' => ∃ ρ1 ρ2, h (.sh d) ρ = some ρ1 ∧ body ρ1 = .next ρ2 ∧ Mt μ' (st s') (fgt fs ρ2)
      | .ret o μ' => ∃ ρ1 ρ2, h (.sh d) ρ = some ρ1 ∧ body ρ1 = .ret o ρ2 ∧ ρ2.st = μ'
      | .exc e μ' => ∃ ρ1 ρ2, h (.sh d) ρ = some ρ1 ∧ body ρ1 = .exc e ρ2 ∧ ρ2.st = μ'
      | .stk => True) : ∀ (ds : List PyData) (s : σ) (μ : List SO) (ρ : Rho), Mt μ (st s) ρ → match forX ds fb s μ with
      | .next s' μ' => ∃ ρ', forL fs h body ds ρ = .next ρ' ∧ Mt μ' (st s') ρ'
      | .ret o μ' => ∃ ρ', forL fs h body ds ρ = .ret o ρ' ∧ ρ'.st = μ'
      | .exc e μ' => ∃ ρ', forL fs h body ds ρ = .exc e ρ' ∧ ρ'.st = μ'
      | .stk => True
  | [], s, μ, ρ, m => ⟨ρ, rfl, m⟩
  | d :: ds, s, μ, ρ, m => by
    have h1 := hb d s μ ρ m
    unfold forX forL
    generalize fb d s μ = z at h1
    cases z with
    | stk => trivial
    | exc e μ' => obtain ⟨ρ1, ρ2, a, b, zs⟩ := h1; exact ⟨ρ2, by simp only [a, b], zs⟩
    | ret e μ' => obtain ⟨ρ1, ρ2, a, b, zs⟩ := h1; exact ⟨ρ2, by simp only [a, b], zs⟩
    | next s' μ' =>
      obtain ⟨ρ1, ρ2, a, b, m2⟩ := h1
      simp only [a, b, OX.bind]
      exact forX_mt hb ds s' μ' _ m2
theorem js_xfor {qT : PyData → σ → R τ} {pt : PyData → σ → τ → Pat} {qx : PyData → σ → τ → List SO → OX σ} {s0 : σ} (hi : jI μ fi p qi p1) (l : Ple (noP fs p1) (st s0)) (ht : ∀ d s μ', jT μ' h (.sh d) (st s) (qT d s) (pt d s)) (hb : ∀ d s t μ', jXS μ' body (pt d s t) (qx d s t μ') st) (hf : ∀ s, noP fs (st s) = st s) :
    jXS μ (sFor fs fi h body) p (OX.bind (OX.of (.of μ qi)) fun ds μ1 => forX ds (fun d s μ2 => OX.bind (OX.of (.of μ2 (qT d s))) fun t μ3 => qx d s t μ3) s0 μ1) st := fun ρ m => by
  have a := hi ρ m
  unfold sFor
  cases qi with
  | stk => trivial
  | exc e => obtain ⟨ρ', a, zs⟩ := a; exact ⟨ρ', by rw [a], zs⟩
  | ok ds =>
    obtain ⟨ρ1, a, m1⟩ := a
    rw [a]
    refine forX_mt (fun d s μ ρ m => ?_) ds s0 μ _ (l.mt (fgt_mt fs m1))
    have b := ht d s μ ρ m
    generalize qT d s = z at b
    cases z with
    | stk => trivial
    | exc e => exact b.elim
    | ok t =>
      obtain ⟨ρ1, b, m1⟩ := b
      have c := hb d s t μ ρ1 m1
      simp only [XR.of, OX.of, OX.bind]
      generalize qx d s t μ = z at c
      cases z with
      | stk => trivial
      | exc e μ' => obtain ⟨ρ2, c, zs⟩ := c; exact ⟨ρ1, ρ2, b, c, zs⟩
      | ret e μ' => obtain ⟨ρ2, c, zs⟩ := c; exact ⟨ρ1, ρ2, b, c, zs⟩
      | next s' μ' =>
        obtain ⟨ρ2, c, m2⟩ := c
        refine ⟨ρ1, ρ2, b, c, ?_⟩
        rw [← hf s']
        exact fgt_mt fs m2
theorem js_xforN {qx : PyData → σ → List SO → OX σ} {s0 : σ} (hi : jI μ fi p qi p1) (l : Ple (noP fs p1) (st s0)) (hb : ∀ d s μ', jXS μ' body ((st s).set i (.ex (.sh d))) (qx d s μ') st) (hf : ∀ s, noP fs (st s) = st s) :
    jXS μ (sFor fs fi (hName i) body) p (OX.bind (OX.of (.of μ qi)) fun ds μ1 => forX ds (fun d s μ2 => qx d s μ2) s0 μ1) st :=
  js_xfor (qT := fun _ _ => .ok ()) (qx := fun d s _ μ' => qx d s μ') (pt := fun d s _ => (st s).set i (.ex (.sh d))) hi l (fun d s _ => jt_name) (fun d s _ μ' => hb d s μ') hf
def tryX (q : OX OV) : OX OV := match q with
  | .exc e μ => if e.cls ∈ excNames then .next (flagsO e.cls) μ else .stk
  | q => q
theorem tryX_next {o : OV} : tryX (.next o μ) = .next o μ := nrfl rfl
theorem tryX_ret {o : OV} : tryX (.ret o μ) = .ret o μ := nrfl rfl
theorem j_xdef {qq : OX σ} {ds : List PyData} {m : Nat} (hb : jXS μ body (ds.map (fun d => Ps.ex (.sh d)) ++ List.replicate (m - ds.length) .un) qq st) : match qq.fin with
    | .ok o μ' => runP m body ds μ = .ok o μ'
    | .exc e μ' => runP m body ds μ = .exc e μ'
    | .stk => True := by
  have a := hb ⟨_, μ⟩ ⟨start_mt _ ds, rfl⟩
  unfold runP
  cases qq with
  | stk => trivial
  | exc e μ' => obtain ⟨ρ', a, zs⟩ := a; simp only [a, OX.fin, outRv, zs]
  | ret o μ' => obtain ⟨ρ', a, zs⟩ := a; simp only [a, OX.fin, outRv, zs]
  | next s μ' => obtain ⟨ρ', a, zs⟩ := a; simp only [a, OX.fin, outRv, zs.2]
end
section
variable {μ : List SO} {p p1 pc : Pat} {i : Nat} {vs : List Nat} {h : OV → Rho → Option Rho} {te : Rho → Re} {d : PyData} {fi : Rho → ReI} {qi : R (List PyData)}
end
section
variable {X : Cx}
end
section
variable {X : Cx} {W : WX} {a b : Expr} {fa fb : Rho → Re} {pos : Pos}
end
section
variable {prog : Program} {w : World} {A : Around} {E : Value → Shared → Prop} {s : Shared}
end
section
variable {X : Cx} {W : WX}
end
section
variable {X : Cx}
end
def tup3 (o : PyData) : Option OV := match o with
  | .list ds => if ds.length = 3 then some (.tup (ds.map .sh)) else none
  | _ => none
section
variable {X : Cx} {W : WX} {a b e o : Expr} {f fb : Rho → Re} {pos apos cpos p : Pos} {n i : Nat}
theorem SI.tup3 {K : PySem.W.Frag} {Hf : Hg} {T : Its} {ρ : Rho} {F : Bs} {σ : St} {H : Hp} {v : V} {os : List OV} (s : SI K Hf ((v, .tup os) :: T) ρ F σ H) (h : os.length = 3) : ∃ a its vs, v = .ref a ∧ H a = some (.frz (tupObj its) (.tup vs)) := by
  obtain ⟨its, sb, h1, hs, s⟩ := s.ex
  obtain ⟨⟨bs, hI, n, al⟩, e, mm⟩ := s
  cases hI with
  | cons hI _ =>
    cases hI with
    | tup hn _ => exact absurd h hn
    | tup3 _ _ _ => exact ⟨_, _, _, rfl, (al _ (List.mem_append_left _ (List.mem_append_left _ List.mem_cons_self))).1⟩
end
section
variable {μ : List SO} {p p1 : Pat} {fb : Rho → Re} {qb : R OV} {i : Nat} {o : OV}
end
section
variable {X : Cx} {W : WX} {elt tg iter c e : Expr} {ifs : List Expr} {scope : Scope} {own : List (Str × Nat)} {pos p : Pos} {f fi : Rho → Re} {h : OV → Rho → Option Rho} {tt : Rho → ReB} {te : Rho → Re} {m : Nat}
end
theorem RpAll.set {K : PySem.W.Frag} {H : Hg} {w : V} {d : PyData} (h : Rp K H w d) : ∀ {vs : List V} {ds : List PyData} {j : Nat}, RpAll K H vs ds → RpAll K H (vs.set j w) (ds.set j d)
  | _, _, _, .nil => .nil
  | _, _, 0, .cons _ r => .cons h r
  | _, _, j + 1, .cons h' r => .cons h' (RpAll.set h r)
section
variable {X : Cx} {W : WX} {a b e : Expr} {f f0 fb fv : Rho → Re} {pos p : Pos} {n : Nat}
end
section
variable {μ : List SO} {p p1 p2 pc : Pat} {f f0 fb fv : Rho → Re} {q q2 q0 : R OV} {qa : XR OV} {vs : List Nat} {h : OV → Rho → Option Rho} {tt : Rho → ReB} {te : Rho → Re} {n : Nat}
end
section
variable {μ : List SO} {p p1 p2 p3 : Pat} {fa fb : Rho → Re} {qa : XR OV}
end
section
variable {X : Cx} {W : WX} {c : Expr} {body : List Stmt} {t : Rho → ReB} {gb : Rho → Out} {pos : Pos} {m : Nat}
end
section
variable {μ : List SO} {σ : Type} {p : Pat} {st : σ → Pat} {pt : σ → Pat} {t : Rho → ReB} {body : Rho → Out} {fs : List Nat} {s0 : σ}
end
section
variable {X : Cx} {W : WX} {a b : Expr} {fb : Rho → Re} {pos : Pos} {n : Nat}
end
section
variable {μ : List SO} {p p1 : Pat} {fb : Rho → Re} {qb : R OV} {i : Nat} {d : PyData}
end
section
variable {μ : List SO} {p p1 : Pat} {i : Nat} {T : String} {g : OV → List OV → Option (OV × OV)} {fl : Rho → ReL} {ql : XR (List OV)} {x0 x : OV}
end
end Ev
namespace L2
open PySem PySem.Spec PyProof.Rows
section
variable {X : Cx} {CX : CXT} {k : Nat} {f C : Addr} {fd : FuncData} {ps : List Str} {sp : Sp} {E : St → XK} {p pos : Pos} {e : Expr} {ta : TE}
end
end L2
namespace Ev
open PySem PySem.Spec L2
open PyProof.Rows hiding St
section
variable {X : Cx} {W : WX} {e : Expr} {f0 : Rho → Re} {pos p : Pos} {m k : Nat} {c : Str} {g : List PyData → List SO → Rv}
end
section
variable {μ : List SO} {f0 : Rho → Re} {p p1 : Pat} {q0 : R OV} {c : Str}
end
section
variable {X : Cx} {W : WX} {a b : Expr} {fa fb : Rho → Re} {n : Nat}
end
end Ev
namespace RZ
open PySem PySem.Spec PyProof.Rows L2
end RZ
namespace Ev
open PySem PySem.Spec L2
open PyProof.Rows hiding St
section
variable {X : Cx} {W : WX} {a b : Expr} {fl : Rho → ReL} {p pos tpos : Pos} {elts : List Expr} {kk : Nat}
end
section
variable {μ : List SO} {fl : Rho → ReL} {p p1 : Pat} {ql : R (List OV)}
end
section
variable {X : Cx} {W : WX} {e1 e2 : Expr} {f1 : Rho → Re} {pos p : Pos} {m k i : Nat} {x : Str} {g : List PyData → List SO → Rv}
end
section
variable {μ : List SO} {f1 : Rho → Re} {p p1 : Pat} {q0 : R OV} {i : Nat} {x : OV}
end
section
variable {X : Cx} {W : WX} {e l k : Expr} {te : TE} {tl tk : TO} {p3 pos : Pos}
end
section
variable {μ : List SO} {p p1 p2 p3 : Pat} {fa fl fk : Rho → Re} {qa : R OV} {ql qk : R (Option Int)}
end
section
variable {X : Cx} {W : WX} {a b e : Expr} {f f0 fb fv : Rho → Re} {pos p : Pos} {n : Nat}
end
section
variable {X : Cx} {W : WX} {a b e : Expr} {f0 fb fv : Rho → Re} {pos p : Pos} {n : Nat}
end
section
variable {X : Cx} {W : WX} {a : Expr} {fa : Rho → Re} {p p' pos pos' : Pos} {n : Nat}
end
section
variable {X : Cx}
end
section
variable {prog : Program} {w : World} {A : Around} {E : Value → Shared → Prop} {s : Shared}
open PySem.W in
end
section
variable {X : Cx}
end
section
variable {μ : List SO} {p p1 p2 p3 : Pat} {f0 fb fv : Rho → Re} {q0 q2 : R OV} {qa : XR OV} {neg : Bool}
end
mutual

inductive KeyAt (H : Hp) : NestedKey → V → Prop
  | num (i : Int) : KeyAt H (.num i) (.int i)
  | tup {b : Addr} {xs : List V} {ks : List NestedKey} : Rd H b (.tup xs) → KeysAt H ks xs → KeyAt H (.tup ks) (.ref b)
inductive KeysAt (H : Hp) : List NestedKey → List V → Prop
  | nil : KeysAt H [] []
  | cons {k : NestedKey} {ks : List NestedKey} {v : V} {vs : List V} : KeyAt H k v → KeysAt H ks vs → KeysAt H (k :: ks) (v :: vs)
end
section
variable {P : Program} {w : World} {H H' : Hp} {h : Heap}
mutual
theorem KeyAt.is (ok : HOk P w H h) : ∀ (k : NestedKey) (v : V) (u : Value), KeyAt H k v → RelV v u → NestedIs h k u
  | .none, _, _, x, _ => nomatch x
  | .text _, _, _, x, _ => nomatch x
  | .num i, _, u, x, r => by
    cases x
    obtain ⟨t, rfl⟩ := (show ∃ t, u = Value.int i t from r)
    exact .int i t
  | .tup ks, _, u, x, r => by
    cases x with
    | @tup b xs _ hb hk =>
      cases (show u = Value.ref b from r)
      obtain ⟨_, its, rv, o, h1, h2, n, h3⟩ := (show ObjOk P w H h b (.tup xs) from hb.ok ok)
      exact .tup h1 h2 h3 (KeysAt.is ok ks xs _ hk (by simpa using rv))
theorem KeysAt.is (ok : HOk P w H h) : ∀ (ks : List NestedKey) (vs : List V) (us : List Value), KeysAt H ks vs → Vals vs us → NestedAll h ks us
  | [], _, us, x, r => by cases x; cases r; exact .nil
  | k :: ks, _, us, x, r => by
    cases x with
    | cons hk hks =>
      cases r with
      | cons r1 r2 => exact .cons (KeyAt.is ok k _ _ hk r1) (KeysAt.is ok ks _ _ hks r2)
end
mutual
theorem KeyAt.to (e : ∀ b xs, Rd H b (.tup xs) → Rd H' b (.tup xs)) : ∀ (k : NestedKey) (v : V), KeyAt H k v → KeyAt H' k v
  | .none, _, x => nomatch x
  | .text _, _, x => nomatch x
  | .num i, _, x => by cases x; exact .num i
  | .tup ks, _, x => by
    cases x with
    | tup hb hk => exact .tup (e _ _ hb) (KeysAt.to e ks _ hk)
theorem KeysAt.to (e : ∀ b xs, Rd H b (.tup xs) → Rd H' b (.tup xs)) : ∀ (ks : List NestedKey) (vs : List V), KeysAt H ks vs → KeysAt H' ks vs
  | [], _, x => by cases x; exact .nil
  | k :: ks, _, x => by
    cases x with
    | cons hk hks => exact .cons (KeyAt.to e k _ hk) (KeysAt.to e ks _ hks)
end
end
section
variable {X : Cx} {pins : List (Addr × Obj)} {σ : St} {H : Hp} {s : Shared} {A : Around} {E : Value → Shared → Prop}
end
section
variable {K : PySem.W.Frag} {Hf : Hg} {H : Hp}
end
section
variable {K : PySem.W.Frag} {Hf : Hg} {T : Its} {ρ : Rho} {F : Bs} {σ : St} {H : Hp} {v u : V} {o : OV}
end
section
variable {K : PySem.W.Frag} {Hf : Hg} {T : Its} {ρ : Rho} {F : Bs} {σ : St} {H : Hp} {v u : V} {o y : OV}
end
section
variable {X : Cx} {W : WX} {a b e o : Expr} {f f0 fb fv fk : Rho → Re} {pos p ap cp : Pos} {n : Nat}
end
section
variable {prog : Program} {w : World} {K : Type} [DecidableEq K] {knd : HeapKind prog w K} {A : Around} {E : Value → Shared → Prop} {s : Shared}
end
section
variable {K : PySem.W.Frag} {Hf : Hg}
end
section
variable {μ : List SO} {p p1 p2 p3 : Pat} {f f0 fb fv fk : Rho → Re} {q0 q2 : R OV} {qa q0x qkx qvx : XR OV} {neg : Bool} {i j : Nat} {d : PyData}
end
end Ev
namespace L2
open PySem PySem.Spec PyProof.Rows
section
variable {K : PySem.W.Frag} {x qual : Str} {params : Arguments} {body : List Stmt} {scope : Scope} {f : Addr} {fd : FuncData} {ps : List Str}
end
section
variable {X : Cx} {CX : CXT} {k n : Nat} {f C : Addr} {fd : FuncData} {ps ks : List Str} {sp : Sp} {E : St → XK} {x m : Str} {p pos apos : Pos} {e o : Expr} {es : List Expr} {kws : List Keyword} {ta : TE} {t tk : TA} {g : List Value → List Value → List Value} {gV : List V → List V → List V}
end
end L2
namespace Ev
open PySem PySem.Spec L2
open PyProof.Rows hiding St
def permL {α : Type} (π : List Nat) (l : List α) : List α := π.filterMap fun i => l[i]?
def EvK (X : Cx) (W : WX) (kws : List Keyword) (f : Rho → ReL) : Prop := PK X kws (tL X W f)
section
variable {X : Cx} {W : WX} {e a b o : Expr} {es : List Expr} {kws : List Keyword} {f f0 fa fb : Rho → Re} {fl fk : Rho → ReL} {pos p apos kpos : Pos} {m k n np : Nat} {c x mn : Str} {ks : List Str} {nm : Option Str} {π : List Nat} {g : List PyData → List SO → Rv}
end
section
variable {P : Program} {w : World} {K : PySem.W.Frag} {mg : Str → Option Value} {base : Heap} {x qual c m : Str} {ag : Arguments} {bd : List Stmt} {sco : Scope} {f : Addr} {fd : FuncData} {dvs : List V} {kws : List (Str × V)} {ks : List Str} {π : List Nat}
end
section
variable {X : Cx} {W : WX} {e : Expr} {f0 : Rho → Re} {p p2 pos : Pos} {c : Str} {n : Nat}
end
def permQ (π : List Nat) (q : List PyData → R OV) : List PyData → R OV := fun ds => q (permL π ds)
def permX (π : List Nat) (q : List PyData → List SO → XR OV) : List PyData → List SO → XR OV := fun ds μ => q (permL π ds) μ
def permRQ (π : List Nat) (q : List PyData → List SO → R OV) : List PyData → List SO → R OV := fun ds μ => q (permL π ds) μ
theorem jP.perm {π : List Nat} {m : List PyData → List SO → Rv} {q : List PyData → R OV} (h : jP m q) : jP (fun ds st => m (permL π ds) st) (permQ π q) := fun ds μ => h (permL π ds) μ
theorem jXP.perm {π : List Nat} {m : List PyData → List SO → Rv} {q : List PyData → List SO → XR OV} (h : jXP m q) : jXP (fun ds st => m (permL π ds) st) (permX π q) := fun ds μ => h (permL π ds) μ
theorem jRP.perm {π : List Nat} {m : List PyData → List SO → Rv} {q : List PyData → List SO → R OV} (h : jRP m q) : jRP (fun ds st => m (permL π ds) st) (permRQ π q) := fun ds μ => h (permL π ds) μ
section
variable {μ : List SO} {p p1 p2 : Pat} {f f0 fa fb : Rho → Re} {fl fk : Rho → ReL} {qa qb : R OV} {ql qk : R (List OV)} {xl : XR (List OV)} {c : Str} {m : List PyData → List SO → Rv} {q : List PyData → List SO → R OV}
end
section
variable {μ : List SO} {σ τ : Type} {f : Rho → Re} {fi : Rho → ReI} {body : Rho → Out} {p p1 : Pat} {qa : XR OV} {qi : XR (List PyData)} {st : σ → Pat} {h : OV → Rho → Option Rho} {fs : List Nat} {i : Nat}
end
section
variable {X : Cx} {W : WX} {a b : Expr} {fa fb : Rho → Re} {pos : Pos}
end
def mPopAt (o : OV) (os : List OV) : Option (OV × OV) := match o, os with
  | .lst xs, [.sh (.int i)] => if 0 ≤ i ∧ i < 2 ^ 63 then match ixN xs.length i with
    | some k => match xs[k]? with
      | some (.sh d) => some (.lst (xs.eraseIdx k), .sh d)
      | _ => none
    | none => none
    else none
  | _, _ => none
theorem ownL_erase {K : PySem.W.Frag} {Hf : Hg} {d : PyData} : ∀ {xs : List OV} {ws : List V} {b : Bs} {k : Nat}, OwnL K Hf ws xs b → xs[k]? = some (.sh d) → (∃ y, ws[k]? = some y ∧ Rp K Hf y d) ∧ OwnL K Hf (ws.eraseIdx k) (xs.eraseIdx k) b
  | [], _, _, _, _, e => by simp at e
  | x :: xs, _, _, 0, .cons h r, e => by
    have e : x = .sh d := by simpa using e
    subst e
    cases h with
    | sh r1 => exact ⟨⟨_, rfl, r1⟩, by simpa using r⟩
  | x :: xs, _, _, k + 1, .cons h r, e => by
    obtain ⟨q1, q2⟩ := ownL_erase r (by simpa using e)
    exact ⟨by simpa using q1, .cons h q2⟩
theorem opm_popAt {K : PySem.W.Frag} : OpM K rPopAt mPopAt := by
  intro Hf its F H v o vs os o' res Q l s h q
  unfold mPopAt at h
  split at h
  · rename_i xs i
    split at h
    · rename_i hb
      split at h
      · rename_i k hk
        split at h
        · rename_i d hd
          cases h
          match vs, l with
          | [w], _ =>
            obtain ⟨ad, rfl⟩ := s.lstRef
            have sw : SX K Hf ((w, .sh (.int i)) :: (.ref ad, .lst xs) :: its) F H := s.perm (List.Perm.swap _ _ _)
            have ew := rp_int sw.rp
            subst ew
            obtain ⟨u, u', h2, ⟨ws, y, rfl, rfl, hl, hy, hr⟩, h3⟩ := SX.chg (C := []) (o' := .lst (xs.eraseIdx k)) (fun u u' => ∃ ws y, u = .lst ws ∧ u' = .lst (ws.eraseIdx k) ∧ ws.length = xs.length ∧ ws[k]? = some y ∧ Rp K Hf y d) (by rintro _ _ ⟨_, _, rfl, _⟩ _ h; cases h) sw.drop (fun bs qq => by
              cases qq with
              | @lst _ ws _ b0 qq =>
                refine ⟨_, _, rfl, fun c1 hc => ?_⟩
                cases hc
                obtain ⟨⟨y, e1, e2⟩, e3⟩ := ownL_erase qq hd
                exact ⟨.lst (ws.eraseIdx k), b0, [], by simp, .lst e3, ws, y, rfl, rfl, qq.len, e1, e2⟩)
            exact ⟨ad, ws, i, k, y, rfl, rfl, h2, by have := hb.1; omega, hb.2, by rw [hl]; exact (ixN_seq hk).1, hy, q _ _ _ (Same.refl _) (h3.add hr)⟩
        · cases h
      · cases h
    · cases h
  · cases h
def hSetIx (i : Nat) (fk : Rho → Re) (o : OV) (ρ : Rho) : Option Rho := match ρ.sl[i]? with
  | some (some _) => match fk ρ with
    | .ok k ρ1 => match ofSt i k o ρ1 with
      | .next ρ2 => some ρ2
      | _ => none
    | _ => none
  | _ => none
section
variable {X : Cx} {W : WX} {a b : Expr} {fk : Rho → Re} {p : Pos} {m : Nat}
theorem eg_setIx {is : List Nat} {i : Nat} (G : Good X W m) (hx : PE X a (tVar i)) (hk : EvE X W b fk)
    (ha : ∀ v, assign (.Subscript a b p) X.env v = (do
      let ov ← holding [v] (eval a X.env)
      let iv ← holding [v, ov] (eval b X.env)
      standAt p
      holding [v, ov, iv] (setItem ov iv v)
      release [v, ov, iv] []) := by intro _; rfl) : EvG X is (.Subscript a b p) (hSetIx i fk) :=
  pg_w (pg_sub hx hk (set_any (by have := G.hu; omega)) ha) fun w σ H Q ⟨Hf, T, ρ, F, o, s, hh⟩ => by
    unfold hSetIx at hh
    cases q0 : ρ.sl[i]? with
    | none => simp only [q0] at hh
    | some y0 =>
      cases y0 with
      | none => simp only [q0] at hh
      | some c0 =>
        simp only [q0] at hh
        obtain ⟨v, hv, _, _⟩ := s.take q0
        refine ⟨v, hv, Hf, (w, o) :: T, ρ, F, s, ?_⟩
        cases q1 : fk ρ with
        | stk => simp only [q1] at hh
        | exc e ρ1 => simp only [q1] at hh
        | ok k ρ2 =>
          simp only [q1] at hh
          intro y H2 Hf2 sm2 s2
          unfold ofSt at hh
          cases q : ρ2.sl[i]? with
          | none => simp only [q] at hh
          | some y1 =>
            cases y1 with
            | none => simp only [q] at hh
            | some cc =>
              simp only [q] at hh
              cases q3 : setO cc (fz k) o with
              | none => simp only [q3] at hh
              | some c' =>
                simp only [q3] at hh
                obtain ⟨v', hv', s3, _⟩ := s2.take q
                rw [hv] at hv'
                obtain rfl : v = v' := by injection hv' with z; injection z
                have r : Rp X.K (_ : Hg) y (fz k) := s2.rdH
                obtain ⟨its, F2, s4, bk⟩ := s3.ex2
                have s5 : SX X.K Hf2 ((v, cc) :: (w, o) :: (T ++ its)) F2 H2 := SX.drop (s4.perm (List.Perm.swap _ _ _))
                refine SX.setO (its := T ++ its) s5 r q3 fun H' s6 => ?_
                refine hh σ H' Hf2 rfl sm2 ?_
                have := SI.put' (T := T) i (bk ((v, c') :: T) _ _ (Same.refl _) s6)
                rw [set_same hv] at this
                simpa using this
end
mutual
inductive KeyX (H : Hp) : NestedKey → V → Prop
  | non : KeyX H .none .non
  | num (i : Int) : KeyX H (.num i) (.int i)
  | txt (x : Str) : KeyX H (.text x) (.str x)
  | tup {b : Addr} {xs : List V} {ks : List NestedKey} : Rd H b (.tup xs) → KeysX H ks xs → KeyX H (.tup ks) (.ref b)
inductive KeysX (H : Hp) : List NestedKey → List V → Prop
  | nil : KeysX H [] []
  | cons {k : NestedKey} {ks : List NestedKey} {v : V} {vs : List V} : KeyX H k v → KeysX H ks vs → KeysX H (k :: ks) (v :: vs)
end
section
variable {P : Program} {w : World} {H H' : Hp} {h : Heap}
mutual
theorem KeyX.is (ok : HOk P w H h) : ∀ (k : NestedKey) (v : V) (u : Value), KeyX H k v → RelV v u → NestedIs h k u
  | .none, _, u, x, r => by
    cases x
    cases r
    exact .none
  | .text x, _, u, q, r => by
    cases q
    obtain ⟨t, rfl⟩ := (show ∃ t, u = Value.str x t from r)
    exact .text x t
  | .num i, _, u, x, r => by
    cases x
    obtain ⟨t, rfl⟩ := (show ∃ t, u = Value.int i t from r)
    exact .int i t
  | .tup ks, _, u, x, r => by
    cases x with
    | @tup b xs _ hb hk =>
      cases (show u = Value.ref b from r)
      obtain ⟨_, its, rv, o, h1, h2, n, h3⟩ := (show ObjOk P w H h b (.tup xs) from hb.ok ok)
      exact .tup h1 h2 h3 (KeysX.is ok ks xs _ hk (by simpa using rv))
theorem KeysX.is (ok : HOk P w H h) : ∀ (ks : List NestedKey) (vs : List V) (us : List Value), KeysX H ks vs → Vals vs us → NestedAll h ks us
  | [], _, us, x, r => by cases x; cases r; exact .nil
  | k :: ks, _, us, x, r => by
    cases x with
    | cons hk hks =>
      cases r with
      | cons r1 r2 => exact .cons (KeyX.is ok k _ _ hk r1) (KeysX.is ok ks _ _ hks r2)
end
end
mutual
theorem NestedIs.kept {h h' : Heap} (e : ∀ b u, h.get? b = some u → h'.get? b = some u) : ∀ (k : NestedKey) (v : Value), NestedIs h k v → NestedIs h' k v
  | .none, _, x => by cases x; exact .none
  | .text _, _, x => by cases x; exact .text _ _
  | .num _, _, x => by
    cases x with
    | bool b => exact .bool b
    | int _ t => exact .int _ t
  | .tup ks, _, x => by
    cases x with
    | tup h1 h2 h3 h4 => exact .tup (e _ _ h1) h2 h3 (NestedAll.kept e ks _ h4)
theorem NestedAll.kept {h h' : Heap} (e : ∀ b u, h.get? b = some u → h'.get? b = some u) : ∀ (ks : List NestedKey) (vs : List Value), NestedAll h ks vs → NestedAll h' ks vs
  | [], _, x => by cases x; exact .nil
  | k :: ks, _, x => by
    cases x with
    | cons h1 h2 => exact .cons (NestedIs.kept e k _ h1) (NestedAll.kept e ks _ h2)
end
section
variable {X : Cx}
abbrev KvX (K : PySem.W.Frag) (H : Hp) : Addr → NestedKey × Addr × V → Prop := fun p kv => SqT K H p [.ref kv.2.1, kv.2.2] ∧ KeyX H kv.1 (.ref kv.2.1) ∧ kv.1.depth ≤ 8
def rDictX (K : PySem.W.Frag) : List V → Hp → VK → Prop := fun xs H Q => ∃ (a : Addr) (ps : List Addr) (kvs : List (NestedKey × Addr × V)), xs = [V.ref a] ∧ SqL K H a (ps.map V.ref) ∧ Paired (KvX K H) ps kvs ∧ (kvs.map (·.1)).Nodup ∧
  ∀ p, H p = none → Q (.ref p) (upd H p (dlO p kvs.length))
theorem pairsX_of {pins : List (Addr × Obj)} {σ : St} {H : Hp} {s : Shared} (I : Inv X pins σ H s) : ∀ {ps : List Addr} {kvs : List (NestedKey × Addr × V)}, Paired (KvX X.K H) ps kvs →
    ∃ prs : List (NestedKey × Addr × Value), prs.map (·.1) = kvs.map (·.1) ∧ (∀ q ∈ prs, (nestedKind X.prog X.w).is s.heap q.1 q.2.1) ∧ prs.length = ps.length ∧
      ∀ (j : Nat) (q : NestedKey × Addr × Value), prs[j]? = some q → ∃ b : Addr, ps[j]? = some b ∧ IsTup s.heap b #[.ref q.2.1, q.2.2]
  | _, _, .nil => ⟨[], rfl, by simp, rfl, fun j q e => by simp at e⟩
  | _, _, .cons (a := p) (b := kv) h t => by
    obtain ⟨prs, r, hh, hl, hp⟩ := pairsX_of I t
    obtain ⟨its, rv, ht, _⟩ := I.tuple h.1
    obtain ⟨u, y, ei, ru, ry⟩ := vals2 rv
    subst ei
    cases ru
    refine ⟨(kv.1, kv.2.1, y) :: prs, by rw [List.map_cons, List.map_cons, r], ?_, by rw [List.length_cons, List.length_cons, hl], fun j q e => ?_⟩
    · intro q hq
      rcases List.mem_cons.mp hq with e | hq
      · subst e
        exact ⟨h.2.1.is I.hok _ _ _ rfl, h.2.2⟩
      · exact hh q hq
    cases j with
    | zero =>
      have e' : (kv.1, kv.2.1, y) = q := Option.some.inj e
      subst e'
      exact ⟨p, rfl, ht⟩
    | succ j =>
      obtain ⟨b, e1, e2⟩ := hp j q (by simpa using e)
      exact ⟨b, by simpa using e1, e2⟩
theorem stored_nd : ∀ (prs : List (NestedKey × Addr × Value)) (l : List (NestedKey × Addr × Value)), ((l ++ prs).map (·.1)).Nodup → (PySem.storedAllH l prs).length = l.length + prs.length
  | [], l, _ => rfl
  | q :: prs, l, nd => by
    show (PySem.storedAllH (storedH l q.1 q.2.1 q.2.2) prs).length = _
    have hn : atKey l q.1 = none := by
      unfold atKey
      rw [Option.map_eq_none_iff, List.find?_eq_none]
      intro x hx e
      have e : x.1 = q.1 := by simpa using e
      rw [List.map_append, List.nodup_append] at nd
      exact nd.2.2 x.1 (List.mem_map.mpr ⟨x, hx, rfl⟩) q.1 (by simp) e
    have hs : storedH l q.1 q.2.1 q.2.2 = l ++ [q] := by
      unfold storedH
      rw [hn]
      rfl
    rw [hs, stored_nd prs (l ++ [q]) (by simpa using nd), List.length_append]
    simp
    omega
theorem call_dictX (hcalm : X.calm = true) (hu : X.A.units + 65 < cLine) : CallR X (.type "dict") (rDictX X.K) := by
  intro pins s σ H xs us Q I r q
  obtain ⟨a, ps, kvs, ex, hq, hp, nd, q⟩ := q
  subst ex
  obtain ⟨u, eu, rx⟩ := vals1 r
  subst eu
  cases rx
  obtain ⟨its, rv, pl, hz⟩ := I.list hq
  have ei := refs_at rv
  subst ei
  rw [List.length_map] at hz
  obtain ⟨prs, rel, hk, hl, hpr⟩ := pairsX_of I hp
  obtain ⟨o, n, ho, hc, hd, hdat⟩ := pl
  have items : PairItems s.heap (ps.map Value.ref).toArray (fun j => ps.getD j 0) (prs.map fun q => (Value.ref q.2.1, q.2.2)) := by
    refine ⟨by simp [hl], fun j k v e => ?_⟩
    rw [List.getElem?_map] at e
    obtain ⟨q', e1, e2⟩ := Option.map_eq_some_iff.mp e
    cases e2
    obtain ⟨b, hb, hT⟩ := hpr j q' e1
    have : ps.getD j 0 = b := by rw [List.getD_eq_getElem?_getD, hb]; rfl
    simp only [this]
    exact ⟨by simp [hb], .inl hT⟩
  have lk : prs.length = kvs.length := by
    have := congrArg List.length rel
    simpa using this
  refine PySem.call_dict_pairsH (knd := nestedKind X.prog X.w) (ps := prs) (PairArg.list a (ps.map Value.ref).toArray (fun j => ps.getD j 0) (prs.map fun q => (Value.ref q.2.1, q.2.2))) (I.ok.hd hcalm) (show X.A.in1.in1.units + 8 < cLine from ?_) ⟨⟨o, n, ho, hc, hd, hdat⟩, items⟩ ?_ ?_ (by rw [List.length_map, hl]; exact hz) fun h' tk hd' k => ?_
  · show X.A.units + 1 + 1 + 8 < cLine
    omega
  · refine ⟨by rw [List.length_map], fun i key v e => ?_⟩
    have e : (prs.map fun q => (Value.ref q.2.1, q.2.2))[i]? = some (key, v) := e
    rw [List.getElem?_map] at e
    obtain ⟨q', e1, e2⟩ := Option.map_eq_some_iff.mp e
    cases e2
    exact ⟨_, _, e1, rfl⟩
  · intro h' keep x hx
    have g := hk x hx
    exact ⟨NestedIs.kept (fun b u e => keep _ _ (Nat.ne_of_lt (Heap.lt_size e)) (by simp) e) _ _ g.1, g.2⟩
  · have k' : ∀ b u, s.heap.get? b = some u → h'.get? b = some u := fun b u e => k b u (by simp) e
    have hm : (s.heap.objs.size == sysModules) = false := beq_eq_false_iff_ne.mpr (Nat.ne_of_gt I.big)
    obtain ⟨o1, es, ep, g1, g2, g3, g4, g5, g6⟩ := hd'
    have hs : es.size = kvs.length := by
      rw [size_of_entries g4, stored_nd prs [] (by rw [List.nil_append, rel]; exact nd), List.length_nil, Nat.zero_add, lk]
    have new : ObjOk X.prog X.w (upd H s.heap.objs.size (dlO s.heap.objs.size kvs.length)) h' s.heap.objs.size (dlO s.heap.objs.size kvs.length) := by
      refine ⟨⟨by rw [← lk, hl]; exact hz, hm, o1, es, ep, g1, g2, g3, hs⟩, ⟨o1, g1⟩, fun h1 h2 p k => ?_⟩
      obtain ⟨z, hd, o', es', ep', q1, q2⟩ := p
      exact ⟨z, hd, o', es', ep', k _ q1, q2⟩
    exact ⟨.ref s.heap.objs.size, upd H s.heap.objs.size (dlO s.heap.objs.size kvs.length), I.laid (t' := tk) k' (Nat.le_refl _) new, rfl, q _ (I.hok.fresh (Nat.le_refl _))⟩
end
mutual
def nxOf : PyData → Option NestedKey
  | .none => some .none
  | .int i => some (.num i)
  | .str x => some (.text x)
  | .tuple ds => if (ds.all fun d => match d with | .str _ => true | _ => false) = true then none else (nxOfs ds).map .tup
  | _ => none
def nxOfs : List PyData → Option (List NestedKey)
  | [] => some []
  | d :: ds => match nxOf d, nxOfs ds with
    | some k, some ks => some (k :: ks)
    | _, _ => none
end
def pairsX : List PyData → Option (List NestedKey)
  | [] => some []
  | .tuple [k, _] :: ds => match nxOf k, pairsX ds with
    | some (.tup ks), some r => if (NestedKey.tup ks).depth ≤ 8 then some (.tup ks :: r) else none
    | _, _ => none
  | _ => none
def dictN (d : PyData) : Option Nat := match d with
  | .list ds => match pairsX ds with
    | some ks => if ks.Nodup then some ks.length else none
    | none => none
  | _ => none
section
variable {K : PySem.W.Frag} {Hf : Hg} {H : Hp}
mutual
theorem rp_nx (sub : Ext Hf (Hf.on H)) : ∀ (d : PyData) (k : NestedKey) (v : V), nxOf d = some k → Rp K Hf v d → KeyX H k v
  | .none, _, _, h, r => by
    rw [nxOf] at h
    cases h
    cases r
    exact .non
  | .int i, _, _, h, r => by
    rw [nxOf] at h
    cases h
    cases r
    exact .num i
  | .str x, _, _, h, r => by
    rw [nxOf] at h
    cases h
    cases r
    exact .txt x
  | .tuple ds, _, _, h, r => by
    rw [nxOf] at h
    split at h
    · cases h
    · rename_i ha
      obtain ⟨ks, h1, rfl⟩ := Option.map_eq_some_iff.mp h
      cases r with
      | tup h r => exact .tup (.inl (sub.tup h)) (rp_nxs sub ds ks _ h1 r)
      | tup3 _ h _ r => exact .tup (.inr ⟨_, sub.frz h⟩) (rp_nxs sub ds ks _ h1 r)
      | tupK h n => exact absurd (by simp [List.all_map]) ha
  | .bool _, _, _, h, _ => by simp [nxOf] at h
  | .list _, _, _, h, _ => by simp [nxOf] at h
  | .dict _, _, _, h, _ => by simp [nxOf] at h
theorem rp_nxs (sub : Ext Hf (Hf.on H)) : ∀ (ds : List PyData) (ks : List NestedKey) (vs : List V), nxOfs ds = some ks → RpAll K Hf vs ds → KeysX H ks vs
  | [], _, _, h, r => by
    rw [nxOfs] at h
    cases h
    cases r
    exact .nil
  | d :: ds, _, _, h, r => by
    rw [nxOfs] at h
    cases r with
    | cons r1 r2 =>
      split at h
      · rename_i k ks q1 q2
        cases h
        exact .cons (rp_nx sub d k _ q1 r1) (rp_nxs sub ds ks _ q2 r2)
      · cases h
end
theorem keyx_ref {ks : List NestedKey} {v : V} (x : KeyX H (.tup ks) v) : ∃ b, v = .ref b := by
  cases x with
  | tup => exact ⟨_, rfl⟩
theorem pairsX_rp (sub : Ext Hf (Hf.on H)) : ∀ {xs : List V} {ds : List PyData} {ks : List NestedKey}, RpAll K Hf xs ds → pairsX ds = some ks →
    ∃ (ps : List Addr) (kvs : List (NestedKey × Addr × V)), xs = ps.map V.ref ∧ Paired (KvX K H) ps kvs ∧ kvs.map (·.1) = ks
  | [], [], ks, .nil, h => by cases h; exact ⟨[], [], rfl, .nil, rfl⟩
  | x :: xs, d :: ds, ks, .cons r t, h => by
    unfold pairsX at h
    split at h
    · rename_i e; cases e
    · rename_i k d' ds' e
      cases e
      split at h
      · rename_i q r' q1 q2
        split at h
        · rename_i hf
          cases h
          obtain ⟨ps, vs, e1, e2, e3⟩ := pairsX_rp sub t q2
          obtain ⟨a, ys, rfl, ta, ra⟩ := r.sqT
          cases ra with
          | cons r1 ra =>
            cases ra with
            | cons r2 ra =>
              cases ra
              have kx := rp_nx sub _ _ _ q1 r1
              obtain ⟨b, rfl⟩ := keyx_ref kx
              exact ⟨a :: ps, (.tup q, b, _) :: vs, by rw [e1]; rfl, .cons ⟨sub.sqT ta, kx, hf⟩ e2, by simp [e3]⟩
        · cases h
      · cases h
    · cases h
variable {T : Its} {ρ : Rho} {F : Bs} {σ : St} {p : Addr} {u : HO} {so : SO}
theorem SI.newSto (s : SI K Hf T ρ F σ H) (hp : H p = none) (q : ∀ G : Hg, SOwn K G p so [(p, u)]) : ∃ Hf', Same Hf Hf' ∧ SI K Hf' ((.ref p, .sh (hdl ρ.st.length)) :: T) ⟨ρ.sl, ρ.st ++ [so]⟩ F σ (upd H p u) := by
  obtain ⟨its, sb, hs, t, s3⟩ := s.ex
  have s4 := SX.hold (u := u) s3 hp
  obtain ⟨s6, sm6⟩ := SX.growM (m := Hf.m) (m' := [p]) (F := (p, u) :: (sb ++ F)) s4
  refine ⟨_, sm6, its, sb ++ [(p, u)], hs, StoL.snoc (t.mono sm6) (q _), ?_⟩
  have s7 := SX.add (v := .ref p) (d := hdl ρ.st.length) s6 (.hd (by
    rw [← t.len]
    show (Hf.m ++ [p])[Hf.m.length]? = some p
    simp))
  have s8 : SX K ⟨Hf.h, Hf.m ++ [p]⟩ ((.ref p, .sh (hdl ρ.st.length)) :: (T ++ its)) (fr ((p, u) :: (sb ++ F)) (Hf.m ++ [p])) (upd H p u) := s7
  refine s8.frPerm ?_
  have := List.perm_middle (a := (p, u)) (l₁ := sb) (l₂ := F)
  simpa using this.symm
end
def eHndX (f : Rho → Re) (ρ : Rho) : Re := bindE (f ρ) fun o ρ1 => match dictN (fz o) with
  | some n => .ok (.sh (hdl ρ1.st.length)) ⟨ρ1.sl, ρ1.st ++ [.dl n]⟩
  | none => .stk
def eLenX (f : Rho → Re) (ρ : Rho) : Re := bindE (f ρ) fun o ρ1 => match objOf ρ1.st (fz o) with
  | some (.dl n) => .ok (.sh (.int n)) ρ1
  | _ => .stk
section
variable {prog : Program} {w : World} {A : Around} {E : Value → Shared → Prop}
theorem meets_lenX (d : Addr) (n : Nat) : MeetsIn prog w (Builtin.«dict.__len__» ⟨[.ref d], []⟩) (fun _ R s => dlP d n s.heap ∧ R (.ok (.ret (.int n s.toks))) { s with toks := s.toks + 1 }) :=
  .of_wp fun A R s ⟨hm, h⟩ => by
    obtain ⟨z, hd, o, es, ep, ho, hc, hdat, he⟩ := hm
    show wpAny _ _ (dictSize d >>= _) _ _ s
    unfold dictSize
    refine wpAny_bind (wpAny_bind (wpAny_dictEntries ho hdat (wpAny_pure ?_)))
    show wpAny _ _ (Builtin.Dict.pendingCount d >>= _) _ _ s
    refine wpAny_bind (wpAny_pendingCount_other hd ?_)
    refine wpAny_ret_mkInt ?_
    rw [Nat.add_zero, he]; exact h
theorem wpAny_lenX {d : Addr} {n : Nat} {s : Shared} {Q : Value → Shared → Prop} (hm : dlP d n s.heap)
    (h : Q (.int n (s.toks + 1)) { s with toks := s.toks + 1 + 1 }) : wpAny (model prog w) A (Builtin.«len» ⟨[.ref d], []⟩) (fun fin s' => ∃ r, fin = .done (.ret r) ∧ Q r s') E s := by
  obtain ⟨z, hd, o, es, ep, ho, hc, hdat, he⟩ := id hm
  have ty : s.TypeIs (.ref d) "dict" := ⟨o, ho, hc.1⟩
  have fit : (n : Int) < 2 ^ 63 := by rw [sizeLine_eq] at z; omega
  unfold Builtin.«len»
  refine wpAny_bind (m := oneArg "len" _) (wpAny_pure ?_)
  refine wpAny_bind (m := callSpecial? (.ref d) (Str.ofString "__len__")) (wpAny_callSpecial?_slot (name := Str.ofString "__len__") ty F.slot_dict_len
    (call_meetsIn F.slot_dict_len ty F.entry_dict_len (F.args_dict_len_1 _) (meets_lenX d n) ⟨hm, ?_⟩))
  show wpAny _ _ _ _ _ { s with toks := s.toks + 1 }
  refine wpAny_bind (wpAny_holding (wpAny_pure ?_))
  refine wpAny_bind (wpAny_letGo ?_)
  show wpAny _ _ (if ((n : Nat) : Int) < 0 then _ else _) _ _ _
  rw [if_neg (by omega)]
  show wpAny _ _ (if ((n : Nat) : Int) ≥ 2 ^ 63 then _ else _) _ _ _
  rw [if_neg (by omega)]
  exact wpAny_bind (wpAny_mkInt (wpAny_pure ⟨_, rfl, h⟩))
end
section
variable {X : Cx} {W : WX} {e : Expr} {f : Rho → Re} {p pos : Pos} {m : Nat}
def rLenX : List V → Hp → VK → Prop := fun xs H Q => ∃ (p : Addr) (n : Nat), xs = [.ref p] ∧ H p = some (dlO p n) ∧ Q (.int ((n : Nat) : Int)) H
theorem call_lenX : CallR X (.builtin "len") rLenX := by
  intro pins s σ H xs us Q I r h
  obtain ⟨p, n, rfl, hp, q⟩ := h
  obtain ⟨u, rfl, rx⟩ := vals1 r
  obtain rfl : u = .ref p := rx
  obtain ⟨pp, _, _⟩ := (show ObjOk X.prog X.w H s.heap p (.ext (dlP p n)) from I.hok p _ hp)
  refine Calls.call_function_entry kind_len plain_len entry_len (args_len1 _) (wpAny_lenX pp ?_)
  exact ⟨.int ((n : Nat) : Int), H, I.tok _, ⟨_, rfl⟩, q⟩
theorem ev_hndX (G : Good X W m) (hm : X.mg "dict" = none) (hg : Gl X "dict") (h : EvE X W e f)
    (hst : starEach [e] X.env = (false, eval e X.env) :: starEach [] X.env := by rfl) (hpl : (backTo pos (starEach [] X.env)).any (·.1) = false := by rfl) : EvE X W (.Call (.Name "dict" p) [e] [] pos) (eHndX f) :=
  pe_w (pe_callTy (call_dictX G.calm G.hu) hg hm (by decide +kernel) (pa_cons h pa_nil hst) (by decide) (by decide) hst hpl) fun σ H Q ⟨Hf, T, ρ, F, s, h⟩ => ⟨Hf, T, ρ, F, s, PostE.bind h fun o ρ1 v H1 Hf1 sm s1 h1 => by
    show rDictX X.K [v] H1 Q
    cases q : dictN (fz o) with
    | none => simp only [q] at h1; exact h1.elim
    | some n =>
      simp only [q] at h1
      obtain ⟨Hf2, sm2, s2⟩ := s1.freeze
      have r := s2.rp
      unfold dictN at q
      split at q
      · rename_i ds hd
        rw [hd] at r
        split at q
        · rename_i ks hk
          split at q
          · rename_i nd
            cases q
            obtain ⟨a, xs, rfl, t1, r1⟩ := r.sqL
            obtain ⟨ps, kvs, rfl, e2, e3⟩ := pairsX_rp s2.sub r1 hk
            refine ⟨a, ps, kvs, rfl, s2.sub.sqL t1, e2, by rw [e3]; exact nd, fun p hp => ?_⟩
            obtain ⟨Hf3, sm3, s3⟩ := s2.drop.newSto (so := .dl kvs.length) (u := dlO p kvs.length) hp fun G => .dl
            have e4 : ks.length = kvs.length := by rw [← e3, List.length_map]
            rw [e4] at h1
            exact h1 _ _ _ (sm2.trans sm3) s3
          · cases q
        · cases q
      · cases q⟩
theorem ev_lenX (G : Good X W m) (hm : X.mg "len" = none) (hg : Gl X "len") (h : EvE X W e f)
    (hst : starEach [e] X.env = (false, eval e X.env) :: starEach [] X.env := by rfl) (hpl : (backTo pos (starEach [] X.env)).any (·.1) = false := by rfl) : EvE X W (.Call (.Name "len" p) [e] [] pos) (eLenX f) :=
  pe_w (pe_callB call_lenX hg hm boot_len (pa_cons h pa_nil hst) (by decide) (by decide) hst hpl) fun σ H Q ⟨Hf, T, ρ, F, s, h⟩ => ⟨Hf, T, ρ, F, s, PostE.bind h fun o ρ1 v H1 Hf1 sm s1 h1 => by
    show rLenX [v] H1 Q
    cases q : objOf ρ1.st (fz o) with
    | none => simp only [q] at h1; exact h1.elim
    | some so =>
      cases so with
      | lst _ => simp only [q] at h1; exact h1.elim
      | dk _ => simp only [q] at h1; exact h1.elim
      | dt _ => simp only [q] at h1; exact h1.elim
      | dn _ => simp only [q] at h1; exact h1.elim
      | ins _ _ => simp only [q] at h1; exact h1.elim
      | dl n =>
        simp only [q] at h1
        obtain ⟨i, e1, hn⟩ := objOf_some q
        obtain ⟨Hf2, sm2, s2⟩ := s1.freeze
        rw [e1] at s2
        obtain ⟨a, b1, rfl, so, al, _⟩ := s2.obj hn s2.rp
        cases so with
        | dl => exact ⟨a, n, rfl, al (a, dlO a n) List.mem_cons_self, h1 _ _ _ sm2 (s2.drop.add (.int _))⟩⟩
end
def hndXR (o : OV) (μ : List SO) : XR OV := match dictN (fz o) with
  | some n => .ok (.sh (hdl μ.length)) (μ ++ [.dl n])
  | none => .stk
def lenXR (μ : List SO) (d : PyData) : Option PyData := match objOf μ d with
  | some (.dl n) => some (.int n)
  | _ => none
section
variable {μ : List SO} {p p1 p2 : Pat} {f f0 fk1 fk2 : Rho → Re} {q q0 q1 q2 : R OV} {qa : XR OV} {i : Nat} {x : OV}
theorem j_xhndX (hh : jXE μ f p qa p1) : jXE μ (eHndX f) p (qa.bind hndXR) p1 := jXE.bind hh fun o μ1 ρ m => by
  unfold hndXR
  cases dictN (fz o) with
  | none => trivial
  | some n => exact ⟨⟨ρ.sl, ρ.st ++ [.dl n]⟩, by rw [m.2], m.1, by rw [m.2]⟩
theorem j_lenX (h0 : jE μ f0 p q0 p1) : jE μ (eLenX f0) p (q0.bind fun o => ofPR (lenXR μ (fz o))) p1 := jE.bind h0 fun o ρ m => by
  rw [m.2]
  unfold ofPR lenXR
  cases objOf μ (fz o) with
  | none => trivial
  | some so =>
    cases so with
    | dl n => exact ⟨ρ, rfl, m⟩
    | _ => trivial
def swR (x : OV) (q1 q2 : R OV) (t : List PyData) : R OV := (noX q1).bind fun k1 => (setR x k1 (.sh (nd t 0))).bind fun y => (noX q2).bind fun k2 => setR y k2 (.sh (nd t 1))
theorem jt_swap {o : OV} {p3 p4 : OV → Pat} (h1 : p1[i]? = some (.ex x)) (hk1 : jE μ fk1 p1 q1 p2) (h2 : p2[i]? = some (.ex x)) (hk2 : ∀ y, jE μ fk2 (p2.set i (.ex y)) q2 (p3 y)) (h3 : ∀ y, (p3 y)[i]? = some (.ex y)) (h4 : ∀ y z, (p3 y).set i (.ex z) = p4 z) (h5 : ∀ y, (p2.set i (.ex y))[i]? = some (.ex y)) :
    jT μ (hTup 2 (hCons (hSetIx i fk1) (hCons (hSetIx i fk2) hNil))) o p1 ((unT 2 (fz o)).bind (swR x q1 q2)) p4 := fun ρ1 m1 => by
  have key : ∀ t : List PyData, t.length = 2 → match swR x q1 q2 t with
      | .ok s => ∃ ρ', hCons (hSetIx i fk1) (hCons (hSetIx i fk2) hNil) t ρ1 = some ρ' ∧ Mt μ (p4 s) ρ'
      | .exc _ => False
      | .stk => True := by
    intro t ht
    obtain ⟨t0, t1, rfl⟩ : ∃ a b, t = [a, b] := by
      match t, ht with
      | [a, b], _ => exact ⟨a, b, rfl⟩
    unfold swR
    rw [nd0, nd1]
    obtain ⟨y0, a1, rfl⟩ := m1.at h1
    have b := hk1 ρ1 m1
    cases q1 with
    | stk => trivial
    | exc e => trivial
    | ok k1 =>
      obtain ⟨ρ2, b, m2⟩ := b
      obtain ⟨y1, a2, rfl⟩ := m2.at h2
      simp only [noX_ok, R.bind]
      unfold setR
      cases e : setO x (fz k1) (.sh t0) with
      | none => trivial
      | some y =>
        have m3 : Mt μ (p2.set i (.ex y)) (ρ2.set i (some y)) := m2.set i rfl
        have c := hk2 y _ m3
        obtain ⟨y2, a3, rfl⟩ := m3.at (h5 y)
        cases q2 with
        | stk => trivial
        | exc e => trivial
        | ok k2 =>
          obtain ⟨ρ3, c, m4⟩ := c
          obtain ⟨y3, a4, rfl⟩ := m4.at (h3 y)
          simp only [noX_ok]
          cases e2 : setO y (fz k2) (.sh t1) with
          | none => trivial
          | some z =>
            refine ⟨ρ3.set i (some z), ?_, by rw [← h4 y z]; exact m4.set i rfl⟩
            simp only [hCons, hSetIx, a1, b, ofSt, a2, e, a3, c, a4, e2, hNil]
  unfold unT hTup
  generalize fz o = d
  cases d with
  | tuple ds =>
    by_cases c : ds.length = 2
    · simp only [if_pos c, R.bind_ok]; have k := key ds c; generalize swR x q1 q2 ds = z at k ⊢; cases z <;> exact k
    · simp only [if_neg c]; trivial
  | list ds =>
    by_cases c : ds.length = 2
    · simp only [if_pos c, R.bind_ok]; have k := key ds c; generalize swR x q1 q2 ds = z at k ⊢; cases z <;> exact k
    · simp only [if_neg c]; trivial
  | _ => trivial
end
end Ev
namespace Com
open PySem PySem.Spec L2 Ev
open PyProof.Rows hiding St
def b_is_whole : Rho → Out :=
  (sCons (sRet (eAnd (eFn (gIsi "int") (lCons (eV 0) lNil)) (eUn gNot (eFn (gIsi "bool") (lCons (eV 0) lNil)))))
    sNil)
def m_is_whole : List PyData → List SO → Rv := runP 1 b_is_whole
def q_is_whole_0 (a1 : PyData) : O Unit :=
  O.bind (O.of (R.bind (R.bind (R.bind (R.ok (.sh a1)) fun e2 => R.bind (R.ok []) fun l3 => .ok (e2 :: l3)) fun l4 => ofOR (gIsi "int" l4)) fun e9 => andR e9 (R.bind (R.bind (R.bind (R.ok (.sh a1)) fun e5 => R.bind (R.ok []) fun l6 => .ok (e5 :: l6)) fun l7 => ofOR (gIsi "bool" l7)) fun e8 => ofOR ((gNot) e8)))) fun o10 => .ret o10
theorem okq_is_whole_0 {μ : List SO} (a1 : PyData) : jS μ b_is_whole [.ex (.sh a1)] (q_is_whole_0 a1) (fun _ : Unit => [.no]) := by
  unfold q_is_whole_0 b_is_whole
  exact (js_retc (j_and (j_fn (j_lcons (j_v rfl) j_lnil)) (j_un (j_fn (j_lcons (j_v rfl) j_lnil))) .rf))
def q_is_whole : List PyData → R OV
  | [a1] => O.fin (q_is_whole_0 a1)
  | _ => .stk
theorem okq_is_whole : jP m_is_whole q_is_whole := fun ds μ => match ds with
  | [a1] => j_def (qq := q_is_whole_0 a1) (okq_is_whole_0 a1)
  | [] => trivial
  | _ :: _ :: _ => trivial
def b_is_side : Rho → Out :=
  (sCons (sRet (eAnd (eCall m_is_whole (lCons (eV 0) lNil)) (eChain gLe gLe (cC (.int 1)) (eV 0) (cC (.int 8)))))
    sNil)
def m_is_side : List PyData → List SO → Rv := runP 1 b_is_side
def q_is_side_0 (a1 : PyData) : O Unit :=
  O.bind (O.of (R.bind (R.bind (R.bind (R.ok (.sh a1)) fun e2 => R.bind (R.ok []) fun l3 => .ok (e2 :: l3)) fun l4 => q_is_whole (l4.map fz)) fun e8 => andR e8 (R.bind (R.ok (.sh (.int 1))) fun e5 => R.bind (R.ok (.sh a1)) fun e6 => chR (gLe e5 e6) (R.bind (R.ok (.sh (.int 8))) fun e7 => ofOR (gLe e6 e7))))) fun o9 => .ret o9
theorem okq_is_side_0 {μ : List SO} (a1 : PyData) : jS μ b_is_side [.ex (.sh a1)] (q_is_side_0 a1) (fun _ : Unit => [.no]) := by
  unfold q_is_side_0 b_is_side
  exact (js_retc (j_and (j_call okq_is_whole (j_lcons (j_v rfl) j_lnil)) (j_chain j_c (j_v rfl) j_c .rf) .rf))
def q_is_side : List PyData → R OV
  | [a1] => O.fin (q_is_side_0 a1)
  | _ => .stk
theorem okq_is_side : jP m_is_side q_is_side := fun ds μ => match ds with
  | [a1] => j_def (qq := q_is_side_0 a1) (okq_is_side_0 a1)
  | [] => trivial
  | _ :: _ :: _ => trivial
def b_cells_of : Rho → Out :=
  (sCons (sAsg (hTup 4 (hCons (hName 1) (hCons (hName 2) (hCons (hName 3) (hCons (hName 4) hNil))))) (eV 0))
    (sCons (sIf (eTest (eBin (gEq false) (eV 3) (cC (.str "along")))) (sCons (sRet (eLc [5] (iRange1 (eV 4)) (hName 5) tYesR (eTup (lCons (eV 1) (lCons (eBin gAdd (eV 2) (eV 5)) lNil)))))
    sNil) sNil)
    (sCons (sRet (eLc [5] (iRange1 (eV 4)) (hName 5) tYesR (eTup (lCons (eBin gAdd (eV 1) (eV 5)) (lCons (eV 2) lNil)))))
    sNil)))
def m_cells_of : List PyData → List SO → Rv := runP 6 b_cells_of
def q_cells_of_0 (a1 : PyData) : O Unit :=
  O.bind (O.of (R.bind (R.ok (.sh a1)) fun o3 => unT 4 (fz o3))) fun t2 => O.bind (O.bind (O.of (R.bind (R.bind (R.ok (.sh (nd t2 2))) fun e4 => R.bind (R.ok (.sh (.str "along"))) fun e5 => ofOR (gEq false e4 e5)) toBR)) fun b31 => if b31 = true then O.bind (O.of (R.bind (R.bind (R.ok (.sh (nd t2 3))) rng1R) fun z28 => R.bind (lcR (fun x19 => R.bind (R.bind (R.bind (R.ok (.sh (nd t2 0))) fun e24 => R.bind (R.bind (R.bind (R.ok (.sh (nd t2 1))) fun e20 => R.bind (R.ok (.sh x19)) fun e21 => ofOR (gAdd e20 e21)) fun e22 => R.bind (R.ok []) fun l23 => .ok (e22 :: l23)) fun l25 => .ok (e24 :: l25)) fun l26 => szR l26.length (.sh (.tuple (l26.map fz)))) fun o27 => .ok (some o27)) z28) fun l29 => szR l29.length (.lst l29))) fun o30 => .ret o30 else .next ()) fun s18 => O.bind (O.of (R.bind (R.bind (R.ok (.sh (nd t2 3))) rng1R) fun z41 => R.bind (lcR (fun x32 => R.bind (R.bind (R.bind (R.bind (R.ok (.sh (nd t2 0))) fun e33 => R.bind (R.ok (.sh x32)) fun e34 => ofOR (gAdd e33 e34)) fun e37 => R.bind (R.bind (R.ok (.sh (nd t2 1))) fun e35 => R.bind (R.ok []) fun l36 => .ok (e35 :: l36)) fun l38 => .ok (e37 :: l38)) fun l39 => szR l39.length (.sh (.tuple (l39.map fz)))) fun o40 => .ok (some o40)) z41) fun l42 => szR l42.length (.lst l42))) fun o43 => .ret o43
theorem okq_cells_of_0 {μ : List SO} (a1 : PyData) : jS μ b_cells_of [.ex (.sh a1), .un, .un, .un, .un, .un] (q_cells_of_0 a1) (fun _ : Unit => [.no, .no, .no, .no, .no, .no]) := by
  unfold q_cells_of_0 b_cells_of
  exact (js_seq (st1 := fun (t2 : List PyData) => [.ex (.sh a1), .ex (.sh (nd t2 0)), .ex (.sh (nd t2 1)), .ex (.sh (nd t2 2)), .ex (.sh (nd t2 3)), .un]) (js_asg (pt := fun _ _ => []) (pt' := fun t2 => [.ex (.sh a1), .ex (.sh (nd t2 0)), .ex (.sh (nd t2 1)), .ex (.sh (nd t2 2)), .ex (.sh (nd t2 3)), .un]) (j_v rfl) fun _ => (jt_tup fun t2 => (jts_cons (by decide) (jts_cons (by decide) (jts_cons (by decide) (jts_cons (by decide) jts_nil)))))) fun t2 => (js_seq (st1 := fun (s18 : Unit) => [.no, .ex (.sh (nd t2 0)), .ex (.sh (nd t2 1)), .no, .ex (.sh (nd t2 3)), .no]) (js_if (j_test (j_bin (j_v rfl) j_c)) (js_retc (j_lc (pc := [.ex (.sh a1), .ex (.sh (nd t2 0)), .ex (.sh (nd t2 1)), .ex (.sh (nd t2 2)), .ex (.sh (nd t2 3)), .no]) (j_irange1 (j_v rfl)) .rf fun x19 => (j_turn1N (j_tup (j_lcons (j_v rfl) (j_lcons (j_bin (j_v rfl) (j_v rfl)) j_lnil))) .rf))) (js_nil (by exact (.no (.eq (.eq (.no (.eq (.no .nil))))))))) fun s18 => (js_retc (j_lc (pc := [.no, .ex (.sh (nd t2 0)), .ex (.sh (nd t2 1)), .no, .ex (.sh (nd t2 3)), .no]) (j_irange1 (j_v rfl)) .rf fun x32 => (j_turn1N (j_tup (j_lcons (j_bin (j_v rfl) (j_v rfl)) (j_lcons (j_v rfl) j_lnil))) .rf)))))
def q_cells_of : List PyData → R OV
  | [a1] => O.fin (q_cells_of_0 a1)
  | _ => .stk
theorem okq_cells_of : jP m_cells_of q_cells_of := fun ds μ => match ds with
  | [a1] => j_def (qq := q_cells_of_0 a1) (okq_cells_of_0 a1)
  | [] => trivial
  | _ :: _ :: _ => trivial
def b_is_on : Rho → Out :=
  (sCons (sRet (eAnd (eChain gLe gLt (cC (.int 0)) (eBin gSub (eV 1) (cC (.int 0))) (eBin gSub (eV 0) (cC (.int 0)))) (eChain gLe gLt (cC (.int 0)) (eBin gSub (eV 1) (cC (.int 1))) (eBin gSub (eV 0) (cC (.int 1))))))
    sNil)
def m_is_on : List PyData → List SO → Rv := runP 2 b_is_on
def q_is_on_0 (a1 : PyData) (a2 : PyData) : O Unit :=
  O.bind (O.of (R.bind (R.bind (R.ok (.sh (.int 0))) fun e7 => R.bind (R.bind (R.ok (.sh a2)) fun e3 => R.bind (R.ok (.sh (.int 0))) fun e4 => ofOR (gSub e3 e4)) fun e8 => chR (gLe e7 e8) (R.bind (R.bind (R.ok (.sh a1)) fun e5 => R.bind (R.ok (.sh (.int 0))) fun e6 => ofOR (gSub e5 e6)) fun e9 => ofOR (gLt e8 e9))) fun e17 => andR e17 (R.bind (R.ok (.sh (.int 0))) fun e14 => R.bind (R.bind (R.ok (.sh a2)) fun e10 => R.bind (R.ok (.sh (.int 1))) fun e11 => ofOR (gSub e10 e11)) fun e15 => chR (gLe e14 e15) (R.bind (R.bind (R.ok (.sh a1)) fun e12 => R.bind (R.ok (.sh (.int 1))) fun e13 => ofOR (gSub e12 e13)) fun e16 => ofOR (gLt e15 e16))))) fun o18 => .ret o18
theorem okq_is_on_0 {μ : List SO} (a1 : PyData) (a2 : PyData) : jS μ b_is_on [.ex (.sh a1), .ex (.sh a2)] (q_is_on_0 a1 a2) (fun _ : Unit => [.no, .no]) := by
  unfold q_is_on_0 b_is_on
  exact (js_retc (j_and (j_chain j_c (j_bin (j_v rfl) j_c) (j_bin (j_v rfl) j_c) .rf) (j_chain j_c (j_bin (j_v rfl) j_c) (j_bin (j_v rfl) j_c) .rf) .rf))
def q_is_on : List PyData → R OV
  | [a1, a2] => O.fin (q_is_on_0 a1 a2)
  | _ => .stk
theorem okq_is_on : jP m_is_on q_is_on := fun ds μ => match ds with
  | [a1, a2] => j_def (qq := q_is_on_0 a1 a2) (okq_is_on_0 a1 a2)
  | [] => trivial
  | [_] => trivial
  | _ :: _ :: _ :: _ => trivial
def b_is_ship : Rho → Out :=
  (sCons (sIf (bOr (bNot (eTest (eFn (gIsi "tuple") (lCons (eV 1) lNil)))) (bOr (eTest (eBin (gEq true) (eFn (g1 dLen) (lCons (eV 1) lNil)) (cC (.int 4)))) (bOr (bNot (eTest (eFn (gIsi "str") (lCons (eBin gSub (eV 1) (cC (.int 2))) lNil)))) (eTest (eBin (gIn true) (eBin gSub (eV 1) (cC (.int 2))) (cC (.tuple [.str "along", .str "down"]))))))) (sCons (sRet (cC (.bool false)))
    sNil) sNil)
    (sCons (sAsg (hTup 4 (hCons (hName 2) (hCons (hName 3) (hCons (hName 4) (hCons (hName 5) hNil))))) (eV 1))
    (sCons (sIf (bOr (bNot (eTest (eCall m_is_whole (lCons (eV 2) lNil)))) (bOr (bNot (eTest (eCall m_is_whole (lCons (eV 3) lNil)))) (bOr (bNot (eTest (eCall m_is_side (lCons (eV 5) lNil)))) (bAnd (eTest (eBin (gEq false) (eV 5) (cC (.int 1)))) (eTest (eBin (gEq false) (eV 4) (cC (.str "down")))))))) (sCons (sRet (cC (.bool false)))
    sNil) sNil)
    (sCons (sRet (eFn (g1 (dAll fun bs => bs.all id)) (lCons (eLc [6] (iVal (eCall m_cells_of (lCons (eV 1) lNil))) (hName 6) tYesR (eCall m_is_on (lCons (eV 0) (lCons (eV 6) lNil)))) lNil)))
    sNil))))
def m_is_ship : List PyData → List SO → Rv := runP 7 b_is_ship
def q_is_ship_0 (a1 : PyData) (a2 : PyData) : O Unit :=
  O.bind (O.bind (O.of (R.bind (R.bind (R.bind (R.bind (R.bind (R.ok (.sh a2)) fun e3 => R.bind (R.ok []) fun l4 => .ok (e3 :: l4)) fun l5 => ofOR (gIsi "tuple" l5)) toBR) fun b6 => .ok (!b6)) fun b24 => if b24 = true then .ok true else (R.bind (R.bind (R.bind (R.bind (R.bind (R.ok (.sh a2)) fun e7 => R.bind (R.ok []) fun l8 => .ok (e7 :: l8)) fun l9 => ofOR ((g1 dLen) l9)) fun e10 => R.bind (R.ok (.sh (.int 4))) fun e11 => ofOR (gEq true e10 e11)) toBR) fun b23 => if b23 = true then .ok true else (R.bind (R.bind (R.bind (R.bind (R.bind (R.bind (R.ok (.sh a2)) fun e12 => R.bind (R.ok (.sh (.int 2))) fun e13 => ofOR (gSub e12 e13)) fun e14 => R.bind (R.ok []) fun l15 => .ok (e14 :: l15)) fun l16 => ofOR (gIsi "str" l16)) toBR) fun b17 => .ok (!b17)) fun b22 => if b22 = true then .ok true else (R.bind (R.bind (R.bind (R.ok (.sh a2)) fun e18 => R.bind (R.ok (.sh (.int 2))) fun e19 => ofOR (gSub e18 e19)) fun e20 => R.bind (R.ok (.sh (.tuple [.str "along", .str "down"]))) fun e21 => ofOR (gIn true e20 e21)) toBR))))) fun b28 => if b28 = true then O.bind (O.of (R.ok (.sh (.bool false)))) fun o27 => .ret o27 else .next ()) fun s26 => O.bind (O.of (R.bind (R.ok (.sh a2)) fun o30 => unT 4 (fz o30))) fun t29 => O.bind (O.bind (O.of (R.bind (R.bind (R.bind (R.bind (R.bind (R.ok (.sh (nd t29 0))) fun e31 => R.bind (R.ok []) fun l32 => .ok (e31 :: l32)) fun l33 => q_is_whole (l33.map fz)) toBR) fun b34 => .ok (!b34)) fun b50 => if b50 = true then .ok true else (R.bind (R.bind (R.bind (R.bind (R.bind (R.ok (.sh (nd t29 1))) fun e35 => R.bind (R.ok []) fun l36 => .ok (e35 :: l36)) fun l37 => q_is_whole (l37.map fz)) toBR) fun b38 => .ok (!b38)) fun b49 => if b49 = true then .ok true else (R.bind (R.bind (R.bind (R.bind (R.bind (R.ok (.sh (nd t29 3))) fun e39 => R.bind (R.ok []) fun l40 => .ok (e39 :: l40)) fun l41 => q_is_side (l41.map fz)) toBR) fun b42 => .ok (!b42)) fun b48 => if b48 = true then .ok true else (R.bind (R.bind (R.bind (R.ok (.sh (nd t29 3))) fun e43 => R.bind (R.ok (.sh (.int 1))) fun e44 => ofOR (gEq false e43 e44)) toBR) fun b47 => if b47 = true then (R.bind (R.bind (R.ok (.sh (nd t29 2))) fun e45 => R.bind (R.ok (.sh (.str "down"))) fun e46 => ofOR (gEq false e45 e46)) toBR) else .ok false))))) fun b54 => if b54 = true then O.bind (O.of (R.ok (.sh (.bool false)))) fun o53 => .ret o53 else .next ()) fun s52 => O.bind (O.of (R.bind (R.bind (R.bind (R.bind (R.bind (R.bind (R.ok (.sh a2)) fun e55 => R.bind (R.ok []) fun l56 => .ok (e55 :: l56)) fun l57 => q_cells_of (l57.map fz)) itR) fun z65 => R.bind (lcR (fun x58 => R.bind (R.bind (R.bind (R.ok (.sh a1)) fun e61 => R.bind (R.bind (R.ok (.sh x58)) fun e59 => R.bind (R.ok []) fun l60 => .ok (e59 :: l60)) fun l62 => .ok (e61 :: l62)) fun l63 => q_is_on (l63.map fz)) fun o64 => .ok (some o64)) z65) fun l66 => szR l66.length (.lst l66)) fun e67 => R.bind (R.ok []) fun l68 => .ok (e67 :: l68)) fun l69 => ofOR ((g1 (dAll fun bs => bs.all id)) l69))) fun o70 => .ret o70
theorem okq_is_ship_0 {μ : List SO} (a1 : PyData) (a2 : PyData) : jS μ b_is_ship [.ex (.sh a1), .ex (.sh a2), .un, .un, .un, .un, .un] (q_is_ship_0 a1 a2) (fun _ : Unit => [.no, .no, .no, .no, .no, .no, .no]) := by
  unfold q_is_ship_0 b_is_ship
  exact (js_seq (st1 := fun (s26 : Unit) => [.ex (.sh a1), .ex (.sh a2), .no, .no, .no, .no, .no]) (js_if (j_bor (j_not (j_test (j_fn (j_lcons (j_v rfl) j_lnil)))) (j_bor (j_test (j_bin (j_fn (j_lcons (j_v rfl) j_lnil)) j_c)) (j_bor (j_not (j_test (j_fn (j_lcons (j_bin (j_v rfl) j_c) j_lnil)))) (j_test (j_bin (j_bin (j_v rfl) j_c) j_c)) .rf) .rf) .rf) (js_retc j_c) (js_nil (by exact (.eq (.eq (.no (.no (.no (.no (.no .nil)))))))))) fun s26 => (js_seq (st1 := fun (t29 : List PyData) => [.ex (.sh a1), .ex (.sh a2), .ex (.sh (nd t29 0)), .ex (.sh (nd t29 1)), .ex (.sh (nd t29 2)), .ex (.sh (nd t29 3)), .no]) (js_asg (pt := fun _ _ => []) (pt' := fun t29 => [.ex (.sh a1), .ex (.sh a2), .ex (.sh (nd t29 0)), .ex (.sh (nd t29 1)), .ex (.sh (nd t29 2)), .ex (.sh (nd t29 3)), .no]) (j_v rfl) fun _ => (jt_tup fun t29 => (jts_cons (by decide) (jts_cons (by decide) (jts_cons (by decide) (jts_cons (by decide) jts_nil)))))) fun t29 => (js_seq (st1 := fun (s52 : Unit) => [.ex (.sh a1), .ex (.sh a2), .no, .no, .no, .no, .no]) (js_if (j_bor (j_not (j_test (j_call okq_is_whole (j_lcons (j_v rfl) j_lnil)))) (j_bor (j_not (j_test (j_call okq_is_whole (j_lcons (j_v rfl) j_lnil)))) (j_bor (j_not (j_test (j_call okq_is_side (j_lcons (j_v rfl) j_lnil)))) (j_band (j_test (j_bin (j_v rfl) j_c)) (j_test (j_bin (j_v rfl) j_c)) .rf) .rf) .rf) .rf) (js_retc j_c) (js_nil (by exact (.eq (.eq (.no (.no (.no (.no (.eq .nil)))))))))) fun s52 => (js_retc (j_fn (j_lcons (j_lc (pc := [.ex (.sh a1), .ex (.sh a2), .no, .no, .no, .no, .no]) (j_ival (j_call okq_cells_of (j_lcons (j_v rfl) j_lnil))) .rf fun x58 => (j_turn1N (j_call okq_is_on (j_lcons (j_v rfl) (j_lcons (j_v rfl) j_lnil))) .rf)) j_lnil))))))
def q_is_ship : List PyData → R OV
  | [a1, a2] => O.fin (q_is_ship_0 a1 a2)
  | _ => .stk
theorem okq_is_ship : jP m_is_ship q_is_ship := fun ds μ => match ds with
  | [a1, a2] => j_def (qq := q_is_ship_0 a1 a2) (okq_is_ship_0 a1 a2)
  | [] => trivial
  | [_] => trivial
  | _ :: _ :: _ :: _ => trivial
def b__law_stir : Rho → Out :=
  (sCons (sSet 2 (eMul (eBin gAdd (eBin gAdd (eMod (eV 0) (ePow (cC (.int 10)) (cC (.int 60)))) (eMul (cC (.int 7919)) (eV 1))) (cC (.int 1))) (cC (.int 27182818284590452353602874713527))))
    (sCons (sSet 2 (eMod (eV 2) (cC (.int 170141183460469231731687303715884105727))))
    (sCons (sRet (eFdiv (eMod (ePow (eBin gAdd (ePow (eV 2) (cC (.int 5))) (eMul (cC (.int 48271)) (eV 1))) (cC (.int 3))) (cC (.int 162259276829213363391578010288127))) (cC (.int 7))))
    sNil)))
def m__law_stir : List PyData → List SO → Rv := runP 3 b__law_stir
def q__law_stir_0 (a1 : PyData) (a2 : PyData) : O Unit :=
  O.bind (O.of (R.bind (R.bind (R.bind (R.bind (R.ok (.sh a1)) fun e5 => R.bind (R.bind (R.ok (.sh (.int 10))) fun e3 => R.bind (R.ok (.sh (.int 60))) fun e4 => ofOR (gPowI e3 e4)) fun e6 => ofOR (gModI e5 e6)) fun e9 => R.bind (R.bind (R.ok (.sh (.int 7919))) fun e7 => R.bind (R.ok (.sh a2)) fun e8 => ofOR (gMulI e7 e8)) fun e10 => ofOR (gAdd e9 e10)) fun e11 => R.bind (R.ok (.sh (.int 1))) fun e12 => ofOR (gAdd e11 e12)) fun e13 => R.bind (R.ok (.sh (.int 27182818284590452353602874713527))) fun e14 => ofOR (gMulI e13 e14))) fun (v15 : OV) => O.bind (O.of (R.bind (R.ok (.sh (fz v15))) fun e16 => R.bind (R.ok (.sh (.int 170141183460469231731687303715884105727))) fun e17 => ofOR (gModI e16 e17))) fun (v18 : OV) => O.bind (O.of (R.bind (R.bind (R.bind (R.bind (R.bind (R.ok (.sh (fz v18))) fun e19 => R.bind (R.ok (.sh (.int 5))) fun e20 => ofOR (gPowI e19 e20)) fun e23 => R.bind (R.bind (R.ok (.sh (.int 48271))) fun e21 => R.bind (R.ok (.sh a2)) fun e22 => ofOR (gMulI e21 e22)) fun e24 => ofOR (gAdd e23 e24)) fun e25 => R.bind (R.ok (.sh (.int 3))) fun e26 => ofOR (gPowI e25 e26)) fun e27 => R.bind (R.ok (.sh (.int 162259276829213363391578010288127))) fun e28 => ofOR (gModI e27 e28)) fun e29 => R.bind (R.ok (.sh (.int 7))) fun e30 => ofOR (gDivI e29 e30))) fun o31 => .ret o31
theorem okq__law_stir_0 {μ : List SO} (a1 : PyData) (a2 : PyData) : jS μ b__law_stir [.ex (.sh a1), .ex (.sh a2), .un] (q__law_stir_0 a1 a2) (fun _ : Unit => [.no, .no, .no]) := by
  unfold q__law_stir_0 b__law_stir
  exact (js_seq (st1 := fun (v15 : OV) => [.ex (.sh a1), .ex (.sh a2), .ex v15]) (js_set (j_bin (j_bin (j_bin (j_bin (j_v rfl) (j_bin j_c j_c)) (j_bin j_c (j_v rfl))) j_c) j_c)) fun v15 => (js_seq (st1 := fun (v18 : OV) => [.ex (.sh a1), .ex (.sh a2), .ex v18]) (js_set (j_bin (j_vx rfl) j_c)) fun v18 => (js_retc (j_bin (j_bin (j_bin (j_bin (j_bin (j_vx rfl) j_c) (j_bin j_c (j_v rfl))) j_c) j_c) j_c))))
def q__law_stir : List PyData → R OV
  | [a1, a2] => O.fin (q__law_stir_0 a1 a2)
  | _ => .stk
theorem okq__law_stir : jP m__law_stir q__law_stir := fun ds μ => match ds with
  | [a1, a2] => j_def (qq := q__law_stir_0 a1 a2) (okq__law_stir_0 a1 a2)
  | [] => trivial
  | [_] => trivial
  | _ :: _ :: _ :: _ => trivial
def b__law_drawn_1 : Rho → Out :=
  (sCons (sIf (bOr (eTest (eBin (gLt) (eV 0) (ePow (cC (.int 10)) (cC (.int 18))))) (eTest (eBin (gEq false) (eV 3) (cC (.int 0))))) (sCons (sExpr (eMut 2 "list" mApp (lCons (eMod (eCall m__law_stir (lCons (eV 0) (lCons (eV 4) lNil))) (eBin gSub (eV 1) (eV 4))) lNil)))
    sNil) (sCons (sExpr (eMut 2 "list" mApp (lCons (eMod (eV 3) (eBin gSub (eV 1) (eV 4))) lNil)))
    (sCons (sSet 3 (eFdiv (eV 3) (eBin gSub (eV 1) (eV 4))))
    sNil)))
    sNil)
def b__law_drawn : Rho → Out :=
  (sCons (sSet 2 (eLst lNil))
    (sCons (sSet 3 (eV 0))
    (sCons (sFor [4] (iRange1 (eFn (g1 dLen) (lCons (eV 1) lNil))) (hName 4) b__law_drawn_1)
    (sCons (sRet (eM 2))
    sNil))))
def m__law_drawn : List PyData → List SO → Rv := runP 5 b__law_drawn
def q__law_drawn_1 (a1 : PyData) (a2 : PyData) (x77 : PyData) (s76 : OV × PyData) : O (OV × PyData) :=
  O.bind (O.bind (O.of (R.bind (R.bind (R.bind (R.ok (.sh a1)) fun e145 => R.bind (R.bind (R.ok (.sh (.int 10))) fun e143 => R.bind (R.ok (.sh (.int 18))) fun e144 => ofOR (gPowI e143 e144)) fun e146 => ofOR (gLt e145 e146)) toBR) fun b149 => if b149 = true then .ok true else (R.bind (R.bind (R.ok (.sh s76.2)) fun e147 => R.bind (R.ok (.sh (.int 0))) fun e148 => ofOR (gEq false e147 e148)) toBR))) fun b207 => if b207 = true then O.bind (O.of (R.bind (ownR "list" s76.1) fun _ => R.bind (R.bind (R.bind (R.bind (R.bind (R.ok (.sh a1)) fun e181 => R.bind (R.bind (R.ok (.sh x77)) fun e179 => R.bind (R.ok []) fun l180 => .ok (e179 :: l180)) fun l182 => .ok (e181 :: l182)) fun l183 => q__law_stir (l183.map fz)) fun e186 => R.bind (R.bind (R.ok (.sh a2)) fun e184 => R.bind (R.ok (.sh x77)) fun e185 => ofOR (gSub e184 e185)) fun e187 => ofOR (gModI e186 e187)) fun e188 => R.bind (R.ok []) fun l189 => .ok (e188 :: l189)) fun l191 => R.bind (mutR mApp s76.1 l191) fun r192 => .ok r192.1)) fun (v190 : OV) => .next (v190, s76.2) else O.bind (O.of (R.bind (ownR "list" s76.1) fun _ => R.bind (R.bind (R.bind (R.ok (.sh s76.2)) fun e195 => R.bind (R.bind (R.ok (.sh a2)) fun e193 => R.bind (R.ok (.sh x77)) fun e194 => ofOR (gSub e193 e194)) fun e196 => ofOR (gModI e195 e196)) fun e197 => R.bind (R.ok []) fun l198 => .ok (e197 :: l198)) fun l200 => R.bind (mutR mApp s76.1 l200) fun r201 => .ok r201.1)) fun (v199 : OV) => O.bind (O.of (R.bind (R.ok (.sh s76.2)) fun e204 => R.bind (R.bind (R.ok (.sh a2)) fun e202 => R.bind (R.ok (.sh x77)) fun e203 => ofOR (gSub e202 e203)) fun e205 => ofOR (gDivI e204 e205))) fun (v206 : OV) => .next (v199, (fz v206))) fun s178 => .next (s178.1, s178.2)
theorem okq__law_drawn_1 {μ : List SO} (a1 : PyData) (a2 : PyData) (x77 : PyData) (s76 : OV × PyData) : jS μ b__law_drawn_1 [.ex (.sh a1), .ex (.sh a2), .ex s76.1, .fr s76.2, .ex (.sh x77)] (q__law_drawn_1 a1 a2 x77 s76) (fun (s76 : OV × PyData) => [.ex (.sh a1), .ex (.sh a2), .ex s76.1, .fr s76.2, .no]) := by
  unfold q__law_drawn_1 b__law_drawn_1
  exact (js_seq (st1 := fun (s178 : OV × PyData) => [.ex (.sh a1), .ex (.sh a2), .ex s178.1, .fr s178.2, .no]) (js_if (j_bor (j_test (j_bin (j_v rfl) (j_bin j_c j_c))) (j_test (j_bin (j_vf rfl) j_c)) .rf) (js_seq (st1 := fun (v190 : OV) => [.ex (.sh a1), .ex (.sh a2), .ex v190, .fr s76.2, .ex (.sh x77)]) (js_mut rfl (j_lcons (j_bin (j_call okq__law_stir (j_lcons (j_v rfl) (j_lcons (j_v rfl) j_lnil))) (j_bin (j_v rfl) (j_v rfl))) j_lnil) rfl) fun v190 => (js_nil (by exact (.eq (.eq (.eq (.eq (.no .nil)))))))) (js_seq (st1 := fun (v199 : OV) => [.ex (.sh a1), .ex (.sh a2), .ex v199, .fr s76.2, .ex (.sh x77)]) (js_mut rfl (j_lcons (j_bin (j_vf rfl) (j_bin (j_v rfl) (j_v rfl))) j_lnil) rfl) fun v199 => (js_seq (st1 := fun (v206 : OV) => [.ex (.sh a1), .ex (.sh a2), .ex v199, .ex v206, .ex (.sh x77)]) (js_set (j_bin (j_vf rfl) (j_bin (j_v rfl) (j_v rfl)))) fun v206 => (js_nil (by exact (.eq (.eq (.eq (.fr (.no .nil)))))))))) fun s178 => (js_nil .rf))
def q__law_drawn_0 (a1 : PyData) (a2 : PyData) : O Unit :=
  O.bind (O.of (R.bind (R.ok []) fun l3 => szR l3.length (.lst l3))) fun (v4 : OV) => O.bind (O.of (R.ok (.sh a1))) fun (v5 : OV) => O.bind (O.bind (O.of (R.bind (R.bind (R.bind (R.ok (.sh a2)) fun e6 => R.bind (R.ok []) fun l7 => .ok (e6 :: l7)) fun l8 => ofOR ((g1 dLen) l8)) rng1R)) fun z208 => forO z208 (fun x77 s76 => q__law_drawn_1 a1 a2 x77 s76) (v4, (fz v5))) fun s209 => O.bind (O.of (R.ok s209.1)) fun o210 => .ret o210
theorem okq__law_drawn_0 {μ : List SO} (a1 : PyData) (a2 : PyData) : jS μ b__law_drawn [.ex (.sh a1), .ex (.sh a2), .un, .un, .un] (q__law_drawn_0 a1 a2) (fun _ : Unit => [.no, .no, .no, .no, .no]) := by
  unfold q__law_drawn_0 b__law_drawn
  exact (js_seq (st1 := fun (v4 : OV) => [.ex (.sh a1), .ex (.sh a2), .ex v4, .un, .un]) (js_set (j_lst j_lnil)) fun v4 => (js_seq (st1 := fun (v5 : OV) => [.ex (.sh a1), .ex (.sh a2), .ex v4, .ex v5, .un]) (js_set (j_v rfl)) fun v5 => (js_seq (st1 := fun (s209 : OV × PyData) => [.ex (.sh a1), .ex (.sh a2), .ex s209.1, .fr s209.2, .no]) (js_forN (st := fun (s76 : OV × PyData) => [.ex (.sh a1), .ex (.sh a2), .ex s76.1, .fr s76.2, .no]) (j_irange1 (j_fn (j_lcons (j_v rfl) j_lnil))) (by exact (.eq (.eq (.eq (.fr (.eq .nil)))))) (fun x77 s76 => okq__law_drawn_1 a1 a2 x77 s76) (fun _ => rfl)) fun s209 => (js_retc (j_m rfl)))))
def q__law_drawn : List PyData → R OV
  | [a1, a2] => O.fin (q__law_drawn_0 a1 a2)
  | _ => .stk
theorem okq__law_drawn : jP m__law_drawn q__law_drawn := fun ds μ => match ds with
  | [a1, a2] => j_def (qq := q__law_drawn_0 a1 a2) (okq__law_drawn_0 a1 a2)
  | [] => trivial
  | [_] => trivial
  | _ :: _ :: _ :: _ => trivial
def b__law_odd : Rho → Out :=
  (sCons (sAsg (hTup 3 (hCons (hName 1) (hCons (hName 2) (hCons (hName 3) hNil)))) (eCall m__law_drawn (lCons (eV 0) (lCons (eLst (lCons (cC (.int 19)) (lCons (cC (.int 40)) (lCons (cC (.int 7)) lNil)))) lNil))))
    (sCons (sSet 4 (eLst (lCons (cC (.int 0)) (lCons (eNeg (cC (.int 1))) (lCons (cC (.int 1)) (lCons (eV 2) (lCons (cC (.int 8)) (lCons (cC (.int 9)) (lCons (cC (.bool true)) (lCons (cC (.bool false)) (lCons (cC .none) (lCons (cC (.str "")) (lCons (cC (.str "a1")) (lCons (cC (.str "water")) (lCons (cC (.str "along")) (lCons (ePow (cC (.int 10)) (cC (.int 39))) (lCons (eSub (cC (.int 0)) (ePow (cC (.int 10)) (cC (.int 20)))) lNil)))))))))))))))))
    (sCons (sIf (eTest (eBin (gLt) (eV 1) (cC (.int 15)))) (sCons (sRet (eBin gSub (eV 4) (eV 1)))
    sNil) sNil)
    (sCons (sSet 5 (eLc [6] (iRange1 (eV 3)) (hName 6) tYesR (eBin gSub (eV 4) (eMod (eBin gAdd (eV 2) (eMul (eV 6) (eV 6))) (cC (.int 15))))))
    (sCons (sIf (eTest (eBin (gGt) (eV 3) (cC (.int 3)))) (sCons (sSet 5 (eLst (lCons (eFn (g1 dTuple) (lCons (eSl (eV 5) none (some (cC (.int 2)))) lNil)) (lCons (eFn (g1 dList) (lCons (eSl (eV 5) (some (cC (.int 2))) none) lNil)) (lCons (eBin gSub (eV 5) (cC (.int 0))) lNil)))))
    sNil) sNil)
    (sCons (sRet (eBin gSub (eLst (lCons (eFn (g1 dTuple) (lCons (eV 5) lNil)) (lCons (eV 5) (lCons (eTup (lCons (eV 5) (lCons (eFn (g1 dTuple) (lCons (eV 5) lNil)) lNil))) (lCons (eFn (g1 dTuple) (lCons (eSl (eV 5) none (some (cC (.int 2)))) lNil)) lNil))))) (eSub (eV 1) (cC (.int 15)))))
    sNil))))))
def m__law_odd : List PyData → List SO → Rv := runP 7 b__law_odd
def q__law_odd_0 (a1 : PyData) : O Unit :=
  O.bind (O.of (R.bind (R.bind (R.bind (R.ok (.sh a1)) fun e11 => R.bind (R.bind (R.bind (R.bind (R.ok (.sh (.int 19))) fun e6 => R.bind (R.bind (R.ok (.sh (.int 40))) fun e4 => R.bind (R.bind (R.ok (.sh (.int 7))) fun e2 => R.bind (R.ok []) fun l3 => .ok (e2 :: l3)) fun l5 => .ok (e4 :: l5)) fun l7 => .ok (e6 :: l7)) fun l8 => szR l8.length (.lst l8)) fun e9 => R.bind (R.ok []) fun l10 => .ok (e9 :: l10)) fun l12 => .ok (e11 :: l12)) fun l13 => q__law_drawn (l13.map fz)) fun o15 => unT 3 (fz o15))) fun t14 => O.bind (O.of (R.bind (R.bind (R.ok (.sh (.int 0))) fun e51 => R.bind (R.bind (R.bind (R.ok (.sh (.int 1))) fun e16 => ofOR ((gI fun i => .int (-i)) e16)) fun e49 => R.bind (R.bind (R.ok (.sh (.int 1))) fun e47 => R.bind (R.bind (R.ok (.sh (nd t14 1))) fun e45 => R.bind (R.bind (R.ok (.sh (.int 8))) fun e43 => R.bind (R.bind (R.ok (.sh (.int 9))) fun e41 => R.bind (R.bind (R.ok (.sh (.bool true))) fun e39 => R.bind (R.bind (R.ok (.sh (.bool false))) fun e37 => R.bind (R.bind (R.ok (.sh .none)) fun e35 => R.bind (R.bind (R.ok (.sh (.str ""))) fun e33 => R.bind (R.bind (R.ok (.sh (.str "a1"))) fun e31 => R.bind (R.bind (R.ok (.sh (.str "water"))) fun e29 => R.bind (R.bind (R.ok (.sh (.str "along"))) fun e27 => R.bind (R.bind (R.bind (R.ok (.sh (.int 10))) fun e17 => R.bind (R.ok (.sh (.int 39))) fun e18 => ofOR (gPowI e17 e18)) fun e25 => R.bind (R.bind (R.bind (R.ok (.sh (.int 0))) fun e21 => R.bind (R.bind (R.ok (.sh (.int 10))) fun e19 => R.bind (R.ok (.sh (.int 20))) fun e20 => ofOR (gPowI e19 e20)) fun e22 => ofOR (gSubI e21 e22)) fun e23 => R.bind (R.ok []) fun l24 => .ok (e23 :: l24)) fun l26 => .ok (e25 :: l26)) fun l28 => .ok (e27 :: l28)) fun l30 => .ok (e29 :: l30)) fun l32 => .ok (e31 :: l32)) fun l34 => .ok (e33 :: l34)) fun l36 => .ok (e35 :: l36)) fun l38 => .ok (e37 :: l38)) fun l40 => .ok (e39 :: l40)) fun l42 => .ok (e41 :: l42)) fun l44 => .ok (e43 :: l44)) fun l46 => .ok (e45 :: l46)) fun l48 => .ok (e47 :: l48)) fun l50 => .ok (e49 :: l50)) fun l52 => .ok (e51 :: l52)) fun l53 => szR l53.length (.lst l53))) fun (v54 : OV) => O.bind (O.bind (O.of (R.bind (R.bind (R.ok (.sh (nd t14 0))) fun e55 => R.bind (R.ok (.sh (.int 15))) fun e56 => ofOR (gLt e55 e56)) toBR)) fun b64 => if b64 = true then O.bind (O.of (R.bind (R.ok (.sh (fz v54))) fun e61 => R.bind (R.ok (.sh (nd t14 0))) fun e62 => ofOR (gSub e61 e62))) fun o63 => .ret o63 else .next ()) fun s60 => O.bind (O.of (R.bind (R.bind (R.ok (.sh (nd t14 2))) rng1R) fun z84 => R.bind (lcR (fun x74 => R.bind (R.bind (R.ok (.sh (fz v54))) fun e81 => R.bind (R.bind (R.bind (R.ok (.sh (nd t14 1))) fun e77 => R.bind (R.bind (R.ok (.sh x74)) fun e75 => R.bind (R.ok (.sh x74)) fun e76 => ofOR (gMulI e75 e76)) fun e78 => ofOR (gAdd e77 e78)) fun e79 => R.bind (R.ok (.sh (.int 15))) fun e80 => ofOR (gModI e79 e80)) fun e82 => ofOR (gSub e81 e82)) fun o83 => .ok (some o83)) z84) fun l85 => szR l85.length (.lst l85))) fun (v86 : OV) => O.bind (O.bind (O.of (R.bind (R.bind (R.ok (.sh (nd t14 2))) fun e87 => R.bind (R.ok (.sh (.int 3))) fun e88 => ofOR (gGt e87 e88)) toBR)) fun b142 => if b142 = true then O.bind (O.of (R.bind (R.bind (R.bind (R.bind (R.bind (R.ok (.sh (fz v86))) fun e118 => R.bind (R.ok none) fun i119 => R.bind (R.bind (R.ok (.sh (.int 2))) fun e116 => R.bind (iR e116) fun i117 => .ok (some i117)) fun i120 => ofOR (gSl e118 i119 i120)) fun e121 => R.bind (R.ok []) fun l122 => .ok (e121 :: l122)) fun l123 => ofOR ((g1 dTuple) l123)) fun e138 => R.bind (R.bind (R.bind (R.bind (R.bind (R.ok (.sh (fz v86))) fun e126 => R.bind (R.bind (R.ok (.sh (.int 2))) fun e124 => R.bind (iR e124) fun i125 => .ok (some i125)) fun i127 => R.bind (R.ok none) fun i128 => ofOR (gSl e126 i127 i128)) fun e129 => R.bind (R.ok []) fun l130 => .ok (e129 :: l130)) fun l131 => ofOR ((g1 dList) l131)) fun e136 => R.bind (R.bind (R.bind (R.ok (.sh (fz v86))) fun e132 => R.bind (R.ok (.sh (.int 0))) fun e133 => ofOR (gSub e132 e133)) fun e134 => R.bind (R.ok []) fun l135 => .ok (e134 :: l135)) fun l137 => .ok (e136 :: l137)) fun l139 => .ok (e138 :: l139)) fun l140 => szR l140.length (.lst l140))) fun (v141 : OV) => .next v141 else .next v86) fun (s115 : OV) => O.bind (O.of (R.bind (R.bind (R.bind (R.bind (R.bind (R.ok (.sh (fz s115))) fun e143 => R.bind (R.ok []) fun l144 => .ok (e143 :: l144)) fun l145 => ofOR ((g1 dTuple) l145)) fun e168 => R.bind (R.bind (R.ok (.sh (fz s115))) fun e166 => R.bind (R.bind (R.bind (R.bind (R.ok (.sh (fz s115))) fun e151 => R.bind (R.bind (R.bind (R.bind (R.ok (.sh (fz s115))) fun e146 => R.bind (R.ok []) fun l147 => .ok (e146 :: l147)) fun l148 => ofOR ((g1 dTuple) l148)) fun e149 => R.bind (R.ok []) fun l150 => .ok (e149 :: l150)) fun l152 => .ok (e151 :: l152)) fun l153 => szR l153.length (.sh (.tuple (l153.map fz)))) fun e164 => R.bind (R.bind (R.bind (R.bind (R.bind (R.ok (.sh (fz s115))) fun e156 => R.bind (R.ok none) fun i157 => R.bind (R.bind (R.ok (.sh (.int 2))) fun e154 => R.bind (iR e154) fun i155 => .ok (some i155)) fun i158 => ofOR (gSl e156 i157 i158)) fun e159 => R.bind (R.ok []) fun l160 => .ok (e159 :: l160)) fun l161 => ofOR ((g1 dTuple) l161)) fun e162 => R.bind (R.ok []) fun l163 => .ok (e162 :: l163)) fun l165 => .ok (e164 :: l165)) fun l167 => .ok (e166 :: l167)) fun l169 => .ok (e168 :: l169)) fun l170 => szR l170.length (.lst l170)) fun e173 => R.bind (R.bind (R.ok (.sh (nd t14 0))) fun e171 => R.bind (R.ok (.sh (.int 15))) fun e172 => ofOR (gSubI e171 e172)) fun e174 => ofOR (gSub e173 e174))) fun o175 => .ret o175
theorem okq__law_odd_0 {μ : List SO} (a1 : PyData) : jS μ b__law_odd [.ex (.sh a1), .un, .un, .un, .un, .un, .un] (q__law_odd_0 a1) (fun _ : Unit => [.no, .no, .no, .no, .no, .no, .no]) := by
  unfold q__law_odd_0 b__law_odd
  exact (js_seq (st1 := fun (t14 : List PyData) => [.ex (.sh a1), .ex (.sh (nd t14 0)), .ex (.sh (nd t14 1)), .ex (.sh (nd t14 2)), .un, .un, .un]) (js_asg (pt := fun _ _ => []) (pt' := fun t14 => [.ex (.sh a1), .ex (.sh (nd t14 0)), .ex (.sh (nd t14 1)), .ex (.sh (nd t14 2)), .un, .un, .un]) (j_call okq__law_drawn (j_lcons (j_v rfl) (j_lcons (j_lst (j_lcons j_c (j_lcons j_c (j_lcons j_c j_lnil)))) j_lnil))) fun _ => (jt_tup fun t14 => (jts_cons (by decide) (jts_cons (by decide) (jts_cons (by decide) jts_nil))))) fun t14 => (js_seq (st1 := fun (v54 : OV) => [.ex (.sh a1), .ex (.sh (nd t14 0)), .ex (.sh (nd t14 1)), .ex (.sh (nd t14 2)), .ex v54, .un, .un]) (js_set (j_lst (j_lcons j_c (j_lcons (j_un j_c) (j_lcons j_c (j_lcons (j_v rfl) (j_lcons j_c (j_lcons j_c (j_lcons j_c (j_lcons j_c (j_lcons j_c (j_lcons j_c (j_lcons j_c (j_lcons j_c (j_lcons j_c (j_lcons (j_bin j_c j_c) (j_lcons (j_bin j_c (j_bin j_c j_c)) j_lnil))))))))))))))))) fun v54 => (js_seq (st1 := fun (s60 : Unit) => [.no, .ex (.sh (nd t14 0)), .ex (.sh (nd t14 1)), .ex (.sh (nd t14 2)), .ex v54, .no, .no]) (js_if (j_test (j_bin (j_v rfl) j_c)) (js_retc (j_bin (j_vx rfl) (j_v rfl))) (js_nil (by exact (.no (.eq (.eq (.eq (.eq (.no (.no .nil)))))))))) fun s60 => (js_seq (st1 := fun (v86 : OV) => [.no, .ex (.sh (nd t14 0)), .ex (.sh (nd t14 1)), .ex (.sh (nd t14 2)), .fr (fz v54), .ex v86, .no]) (js_set (j_lc (pc := [.no, .ex (.sh (nd t14 0)), .ex (.sh (nd t14 1)), .ex (.sh (nd t14 2)), .fr (fz v54), .no, .no]) (j_irange1 (j_v rfl)) (by exact (.eq (.eq (.eq (.eq (.fr (.eq (.eq .nil)))))))) fun x74 => (j_turn1N (j_bin (j_vf rfl) (j_bin (j_bin (j_v rfl) (j_bin (j_v rfl) (j_v rfl))) j_c)) .rf))) fun v86 => (js_seq (st1 := fun (s115 : OV) => [.no, .ex (.sh (nd t14 0)), .no, .no, .no, .ex s115, .no]) (js_if (j_test (j_bin (j_v rfl) j_c)) (js_seq (st1 := fun (v141 : OV) => [.no, .ex (.sh (nd t14 0)), .ex (.sh (nd t14 1)), .ex (.sh (nd t14 2)), .fr (fz v54), .ex v141, .no]) (js_set (j_lst (j_lcons (j_fn (j_lcons (j_sl (j_vx rfl) j_ono (j_osome j_c)) j_lnil)) (j_lcons (j_fn (j_lcons (j_sl (j_v rfl) (j_osome j_c) j_ono) j_lnil)) (j_lcons (j_bin (j_v rfl) j_c) j_lnil))))) fun v141 => (js_nil (by exact (.eq (.eq (.no (.no (.no (.eq (.eq .nil)))))))))) (js_nil (by exact (.eq (.eq (.no (.no (.no (.eq (.eq .nil)))))))))) fun s115 => (js_retc (j_bin (j_lst (j_lcons (j_fn (j_lcons (j_vx rfl) j_lnil)) (j_lcons (j_v rfl) (j_lcons (j_tup (j_lcons (j_v rfl) (j_lcons (j_fn (j_lcons (j_v rfl) j_lnil)) j_lnil))) (j_lcons (j_fn (j_lcons (j_sl (j_v rfl) j_ono (j_osome j_c)) j_lnil)) j_lnil))))) (j_bin (j_v rfl) j_c))))))))
def q__law_odd : List PyData → R OV
  | [a1] => O.fin (q__law_odd_0 a1)
  | _ => .stk
theorem okq__law_odd : jP m__law_odd q__law_odd := fun ds μ => match ds with
  | [a1] => j_def (qq := q__law_odd_0 a1) (okq__law_odd_0 a1)
  | [] => trivial
  | _ :: _ :: _ => trivial
def b__law_ships_1 : Rho → Out :=
  (sCons (sIf (eTest (eBin (gLe) (eBin gAdd (eV 4) (eV 1)) (eBin gSub (eV 0) (cC (.int 1))))) (sCons (sExpr (eMut 2 "list" mApp (lCons (eTup (lCons (eV 3) (lCons (eV 4) (lCons (cC (.str "along")) (lCons (eV 1) lNil))))) lNil)))
    sNil) sNil)
    (sCons (sIf (bAnd (eTest (eBin (gLe) (eBin gAdd (eV 3) (eV 1)) (eBin gSub (eV 0) (cC (.int 0))))) (eTest (eBin (gGt) (eV 1) (cC (.int 1))))) (sCons (sExpr (eMut 2 "list" mApp (lCons (eTup (lCons (eV 3) (lCons (eV 4) (lCons (cC (.str "down")) (lCons (eV 1) lNil))))) lNil)))
    sNil) sNil)
    sNil))
def b__law_ships_2 : Rho → Out :=
  (sCons (sFor [4] (iRange1 (eBin gSub (eV 0) (cC (.int 1)))) (hName 4) b__law_ships_1)
    sNil)
def b__law_ships : Rho → Out :=
  (sCons (sSet 2 (eLst lNil))
    (sCons (sFor [3, 4] (iRange1 (eBin gSub (eV 0) (cC (.int 0)))) (hName 3) b__law_ships_2)
    (sCons (sRet (eM 2))
    sNil)))
def m__law_ships : List PyData → List SO → Rv := runP 5 b__law_ships
def q__law_ships_1 (a1 : PyData) (a2 : PyData) (x243 : PyData) (x557 : PyData) (s556 : OV) : O (OV) :=
  O.bind (O.bind (O.of (R.bind (R.bind (R.bind (R.ok (.sh x557)) fun e633 => R.bind (R.ok (.sh a2)) fun e634 => ofOR (gAdd e633 e634)) fun e637 => R.bind (R.bind (R.ok (.sh a1)) fun e635 => R.bind (R.ok (.sh (.int 1))) fun e636 => ofOR (gSub e635 e636)) fun e638 => ofOR (gLe e637 e638)) toBR)) fun b668 => if b668 = true then O.bind (O.of (R.bind (ownR "list" s556) fun _ => R.bind (R.bind (R.bind (R.bind (R.ok (.sh x243)) fun e660 => R.bind (R.bind (R.ok (.sh x557)) fun e658 => R.bind (R.bind (R.ok (.sh (.str "along"))) fun e656 => R.bind (R.bind (R.ok (.sh a2)) fun e654 => R.bind (R.ok []) fun l655 => .ok (e654 :: l655)) fun l657 => .ok (e656 :: l657)) fun l659 => .ok (e658 :: l659)) fun l661 => .ok (e660 :: l661)) fun l662 => szR l662.length (.sh (.tuple (l662.map fz)))) fun e663 => R.bind (R.ok []) fun l664 => .ok (e663 :: l664)) fun l666 => R.bind (mutR mApp s556 l666) fun r667 => .ok r667.1)) fun (v665 : OV) => .next v665 else .next s556) fun (s653 : OV) => O.bind (O.bind (O.of (R.bind (R.bind (R.bind (R.bind (R.ok (.sh x243)) fun e669 => R.bind (R.ok (.sh a2)) fun e670 => ofOR (gAdd e669 e670)) fun e673 => R.bind (R.bind (R.ok (.sh a1)) fun e671 => R.bind (R.ok (.sh (.int 0))) fun e672 => ofOR (gSub e671 e672)) fun e674 => ofOR (gLe e673 e674)) toBR) fun b677 => if b677 = true then (R.bind (R.bind (R.ok (.sh a2)) fun e675 => R.bind (R.ok (.sh (.int 1))) fun e676 => ofOR (gGt e675 e676)) toBR) else .ok false)) fun b707 => if b707 = true then O.bind (O.of (R.bind (ownR "list" s653) fun _ => R.bind (R.bind (R.bind (R.bind (R.ok (.sh x243)) fun e699 => R.bind (R.bind (R.ok (.sh x557)) fun e697 => R.bind (R.bind (R.ok (.sh (.str "down"))) fun e695 => R.bind (R.bind (R.ok (.sh a2)) fun e693 => R.bind (R.ok []) fun l694 => .ok (e693 :: l694)) fun l696 => .ok (e695 :: l696)) fun l698 => .ok (e697 :: l698)) fun l700 => .ok (e699 :: l700)) fun l701 => szR l701.length (.sh (.tuple (l701.map fz)))) fun e702 => R.bind (R.ok []) fun l703 => .ok (e702 :: l703)) fun l705 => R.bind (mutR mApp s653 l705) fun r706 => .ok r706.1)) fun (v704 : OV) => .next v704 else .next s653) fun (s692 : OV) => .next s692
theorem okq__law_ships_1 {μ : List SO} (a1 : PyData) (a2 : PyData) (x243 : PyData) (x557 : PyData) (s556 : OV) : jS μ b__law_ships_1 [.ex (.sh a1), .ex (.sh a2), .ex s556, .ex (.sh x243), .ex (.sh x557)] (q__law_ships_1 a1 a2 x243 x557 s556) (fun (s556 : OV) => [.ex (.sh a1), .ex (.sh a2), .ex s556, .ex (.sh x243), .no]) := by
  unfold q__law_ships_1 b__law_ships_1
  exact (js_seq (st1 := fun (s653 : OV) => [.ex (.sh a1), .ex (.sh a2), .ex s653, .ex (.sh x243), .ex (.sh x557)]) (js_if (j_test (j_bin (j_bin (j_v rfl) (j_v rfl)) (j_bin (j_v rfl) j_c))) (js_seq (st1 := fun (v665 : OV) => [.ex (.sh a1), .ex (.sh a2), .ex v665, .ex (.sh x243), .ex (.sh x557)]) (js_mut rfl (j_lcons (j_tup (j_lcons (j_v rfl) (j_lcons (j_v rfl) (j_lcons j_c (j_lcons (j_v rfl) j_lnil))))) j_lnil) rfl) fun v665 => (js_nil .rf)) (js_nil .rf)) fun s653 => (js_seq (st1 := fun (s692 : OV) => [.ex (.sh a1), .ex (.sh a2), .ex s692, .ex (.sh x243), .no]) (js_if (j_band (j_test (j_bin (j_bin (j_v rfl) (j_v rfl)) (j_bin (j_v rfl) j_c))) (j_test (j_bin (j_v rfl) j_c)) .rf) (js_seq (st1 := fun (v704 : OV) => [.ex (.sh a1), .ex (.sh a2), .ex v704, .ex (.sh x243), .ex (.sh x557)]) (js_mut rfl (j_lcons (j_tup (j_lcons (j_v rfl) (j_lcons (j_v rfl) (j_lcons j_c (j_lcons (j_v rfl) j_lnil))))) j_lnil) rfl) fun v704 => (js_nil (by exact (.eq (.eq (.eq (.eq (.no .nil)))))))) (js_nil (by exact (.eq (.eq (.eq (.eq (.no .nil)))))))) fun s692 => (js_nil .rf)))
def q__law_ships_2 (a1 : PyData) (a2 : PyData) (x243 : PyData) (s242 : OV) : O (OV) :=
  O.bind (O.bind (O.of (R.bind (R.bind (R.ok (.sh a1)) fun e477 => R.bind (R.ok (.sh (.int 1))) fun e478 => ofOR (gSub e477 e478)) rng1R)) fun z708 => forO z708 (fun x557 s556 => q__law_ships_1 a1 a2 x243 x557 s556) s242) fun (s709 : OV) => .next s709
theorem okq__law_ships_2 {μ : List SO} (a1 : PyData) (a2 : PyData) (x243 : PyData) (s242 : OV) : jS μ b__law_ships_2 [.ex (.sh a1), .ex (.sh a2), .ex s242, .ex (.sh x243), .no] (q__law_ships_2 a1 a2 x243 s242) (fun (s242 : OV) => [.ex (.sh a1), .ex (.sh a2), .ex s242, .no, .no]) := by
  unfold q__law_ships_2 b__law_ships_2
  exact (js_seq (st1 := fun (s709 : OV) => [.ex (.sh a1), .ex (.sh a2), .ex s709, .ex (.sh x243), .no]) (js_forN (st := fun (s556 : OV) => [.ex (.sh a1), .ex (.sh a2), .ex s556, .ex (.sh x243), .no]) (j_irange1 (j_bin (j_v rfl) j_c)) .rf (fun x557 s556 => okq__law_ships_1 a1 a2 x243 x557 s556) (fun _ => rfl)) fun s709 => (js_nil (by exact (.eq (.eq (.eq (.no (.eq .nil))))))))
def q__law_ships_0 (a1 : PyData) (a2 : PyData) : O Unit :=
  O.bind (O.of (R.bind (R.ok []) fun l3 => szR l3.length (.lst l3))) fun (v4 : OV) => O.bind (O.bind (O.of (R.bind (R.bind (R.ok (.sh a1)) fun e5 => R.bind (R.ok (.sh (.int 0))) fun e6 => ofOR (gSub e5 e6)) rng1R)) fun z710 => forO z710 (fun x243 s242 => q__law_ships_2 a1 a2 x243 s242) v4) fun (s711 : OV) => O.bind (O.of (R.ok s711)) fun o712 => .ret o712
theorem okq__law_ships_0 {μ : List SO} (a1 : PyData) (a2 : PyData) : jS μ b__law_ships [.ex (.sh a1), .ex (.sh a2), .un, .un, .un] (q__law_ships_0 a1 a2) (fun _ : Unit => [.no, .no, .no, .no, .no]) := by
  unfold q__law_ships_0 b__law_ships
  exact (js_seq (st1 := fun (v4 : OV) => [.ex (.sh a1), .ex (.sh a2), .ex v4, .un, .un]) (js_set (j_lst j_lnil)) fun v4 => (js_seq (st1 := fun (s711 : OV) => [.ex (.sh a1), .ex (.sh a2), .ex s711, .no, .no]) (js_forN (st := fun (s242 : OV) => [.ex (.sh a1), .ex (.sh a2), .ex s242, .no, .no]) (j_irange1 (j_bin (j_v rfl) j_c)) .rf (fun x243 s242 => okq__law_ships_2 a1 a2 x243 s242) (fun _ => rfl)) fun s711 => (js_retc (j_m rfl))))
def q__law_ships : List PyData → R OV
  | [a1, a2] => O.fin (q__law_ships_0 a1 a2)
  | _ => .stk
theorem okq__law_ships : jP m__law_ships q__law_ships := fun ds μ => match ds with
  | [a1, a2] => j_def (qq := q__law_ships_0 a1 a2) (okq__law_ships_0 a1 a2)
  | [] => trivial
  | [_] => trivial
  | _ :: _ :: _ :: _ => trivial
def b_reach : Rho → Out :=
  (sCons (sRet (eBin gSub (eDict [((cC (.str "free")), (eTup (lCons (cC (.int 0)) (lCons (cC (.int 0)) lNil)))), ((cC (.str "sides")), (eTup (lCons (cC (.int 1)) (lCons (cC (.int 1)) lNil)))), ((cC (.str "corners")), (eTup (lCons (cC (.int 2)) (lCons (cC (.int 1)) lNil))))]) (eV 0)))
    sNil)
def m_reach : List PyData → List SO → Rv := runP 1 b_reach
def q_reach_0 (a1 : PyData) : O Unit :=
  O.bind (O.of (R.bind (R.bind (noX (R.bind (R.ok (.sh (.str "free"))) fun e23 => R.bind (R.bind (R.bind (R.ok (.sh (.int 0))) fun e4 => R.bind (R.bind (R.ok (.sh (.int 0))) fun e2 => R.bind (R.ok []) fun l3 => .ok (e2 :: l3)) fun l5 => .ok (e4 :: l5)) fun l6 => szR l6.length (.sh (.tuple (l6.map fz)))) fun e24 => R.bind (R.bind (R.ok (.sh (.str "sides"))) fun e20 => R.bind (R.bind (R.bind (R.ok (.sh (.int 1))) fun e9 => R.bind (R.bind (R.ok (.sh (.int 1))) fun e7 => R.bind (R.ok []) fun l8 => .ok (e7 :: l8)) fun l10 => .ok (e9 :: l10)) fun l11 => szR l11.length (.sh (.tuple (l11.map fz)))) fun e21 => R.bind (R.bind (R.ok (.sh (.str "corners"))) fun e17 => R.bind (R.bind (R.bind (R.ok (.sh (.int 2))) fun e14 => R.bind (R.bind (R.ok (.sh (.int 1))) fun e12 => R.bind (R.ok []) fun l13 => .ok (e12 :: l13)) fun l15 => .ok (e14 :: l15)) fun l16 => szR l16.length (.sh (.tuple (l16.map fz)))) fun e18 => R.bind (R.ok []) fun r19 => .ok ((e17, e18) :: r19)) fun r22 => .ok ((e20, e21) :: r22)) fun r25 => .ok ((e23, e24) :: r25))) dictR) fun e26 => R.bind (R.ok (.sh a1)) fun e27 => ofOR (gSub e26 e27))) fun o28 => .ret o28
theorem okq_reach_0 {μ : List SO} (a1 : PyData) : jS μ b_reach [.ex (.sh a1)] (q_reach_0 a1) (fun _ : Unit => [.no]) := by
  unfold q_reach_0 b_reach
  exact (js_retc (j_bin (j_dict (j_pscons j_c (j_tup (j_lcons j_c (j_lcons j_c j_lnil))) (j_pscons j_c (j_tup (j_lcons j_c (j_lcons j_c j_lnil))) (j_pscons j_c (j_tup (j_lcons j_c (j_lcons j_c j_lnil))) j_psnil)))) (j_v rfl)))
def q_reach : List PyData → R OV
  | [a1] => O.fin (q_reach_0 a1)
  | _ => .stk
theorem okq_reach : jP m_reach q_reach := fun ds μ => match ds with
  | [a1] => j_def (qq := q_reach_0 a1) (okq_reach_0 a1)
  | [] => trivial
  | _ :: _ :: _ => trivial
def b_too_near : Rho → Out :=
  (sCons (sPar 3 4 (lCons (eFn (g1 dAbs) (lCons (eSub (eBin gSub (eV 1) (cC (.int 0))) (eBin gSub (eV 2) (cC (.int 0)))) lNil)) (lCons (eFn (g1 dAbs) (lCons (eSub (eBin gSub (eV 1) (cC (.int 1))) (eBin gSub (eV 2) (cC (.int 1)))) lNil)) lNil)))
    (sCons (sAsg (hTup 2 (hCons (hName 5) (hCons (hName 6) hNil))) (eCall m_reach (lCons (eV 0) lNil)))
    (sCons (sRet (eAnd (eBin (gLe) (eBin gAdd (eV 3) (eV 4)) (eV 5)) (eBin (gLe) (eFn (gMax max2 maxI) (lCons (eV 3) (lCons (eV 4) lNil))) (eV 6))))
    sNil)))
def m_too_near : List PyData → List SO → Rv := runP 7 b_too_near
def q_too_near_0 (a1 : PyData) (a2 : PyData) (a3 : PyData) : O Unit :=
  O.bind (O.of (R.bind (R.bind (R.bind (R.bind (R.bind (R.bind (R.ok (.sh a2)) fun e4 => R.bind (R.ok (.sh (.int 0))) fun e5 => ofOR (gSub e4 e5)) fun e8 => R.bind (R.bind (R.ok (.sh a3)) fun e6 => R.bind (R.ok (.sh (.int 0))) fun e7 => ofOR (gSub e6 e7)) fun e9 => ofOR (gSubI e8 e9)) fun e10 => R.bind (R.ok []) fun l11 => .ok (e10 :: l11)) fun l12 => ofOR ((g1 dAbs) l12)) fun e24 => R.bind (R.bind (R.bind (R.bind (R.bind (R.bind (R.ok (.sh a2)) fun e13 => R.bind (R.ok (.sh (.int 1))) fun e14 => ofOR (gSub e13 e14)) fun e17 => R.bind (R.bind (R.ok (.sh a3)) fun e15 => R.bind (R.ok (.sh (.int 1))) fun e16 => ofOR (gSub e15 e16)) fun e18 => ofOR (gSubI e17 e18)) fun e19 => R.bind (R.ok []) fun l20 => .ok (e19 :: l20)) fun l21 => ofOR ((g1 dAbs) l21)) fun e22 => R.bind (R.ok []) fun l23 => .ok (e22 :: l23)) fun l25 => .ok (e24 :: l25)) par2R)) fun v26 => O.bind (O.of (R.bind (R.bind (R.bind (R.ok (.sh a1)) fun e27 => R.bind (R.ok []) fun l28 => .ok (e27 :: l28)) fun l29 => q_reach (l29.map fz)) fun o31 => unT 2 (fz o31))) fun t30 => O.bind (O.of (R.bind (R.bind (R.bind (R.ok (.sh (fz v26.1))) fun e32 => R.bind (R.ok (.sh (fz v26.2))) fun e33 => ofOR (gAdd e32 e33)) fun e34 => R.bind (R.ok (.sh (nd t30 0))) fun e35 => ofOR (gLe e34 e35)) fun e43 => andR e43 (R.bind (R.bind (R.bind (R.ok (.sh (fz v26.1))) fun e38 => R.bind (R.bind (R.ok (.sh (fz v26.2))) fun e36 => R.bind (R.ok []) fun l37 => .ok (e36 :: l37)) fun l39 => .ok (e38 :: l39)) fun l40 => ofOR ((gMax max2 maxI) l40)) fun e41 => R.bind (R.ok (.sh (nd t30 1))) fun e42 => ofOR (gLe e41 e42)))) fun o44 => .ret o44
theorem okq_too_near_0 {μ : List SO} (a1 : PyData) (a2 : PyData) (a3 : PyData) : jS μ b_too_near [.ex (.sh a1), .ex (.sh a2), .ex (.sh a3), .un, .un, .un, .un] (q_too_near_0 a1 a2 a3) (fun _ : Unit => [.no, .no, .no, .no, .no, .no, .no]) := by
  unfold q_too_near_0 b_too_near
  exact (js_seq (st1 := fun (v26 : OV × OV) => [.ex (.sh a1), .ex (.sh a2), .ex (.sh a3), .ex v26.1, .ex v26.2, .un, .un]) (js_par (j_lcons (j_fn (j_lcons (j_bin (j_bin (j_v rfl) j_c) (j_bin (j_v rfl) j_c)) j_lnil)) (j_lcons (j_fn (j_lcons (j_bin (j_bin (j_v rfl) j_c) (j_bin (j_v rfl) j_c)) j_lnil)) j_lnil))) fun v26 => (js_seq (st1 := fun (t30 : List PyData) => [.ex (.sh a1), .ex (.sh a2), .ex (.sh a3), .ex v26.1, .ex v26.2, .ex (.sh (nd t30 0)), .ex (.sh (nd t30 1))]) (js_asg (pt := fun _ _ => []) (pt' := fun t30 => [.ex (.sh a1), .ex (.sh a2), .ex (.sh a3), .ex v26.1, .ex v26.2, .ex (.sh (nd t30 0)), .ex (.sh (nd t30 1))]) (j_call okq_reach (j_lcons (j_v rfl) j_lnil)) fun _ => (jt_tup fun t30 => (jts_cons (by decide) (jts_cons (by decide) jts_nil)))) fun t30 => (js_retc (j_and (j_bin (j_bin (j_vx rfl) (j_vx rfl)) (j_v rfl)) (j_bin (j_fn (j_lcons (j_v rfl) (j_lcons (j_v rfl) j_lnil))) (j_v rfl)) .rf))))
def q_too_near : List PyData → R OV
  | [a1, a2, a3] => O.fin (q_too_near_0 a1 a2 a3)
  | _ => .stk
theorem okq_too_near : jP m_too_near q_too_near := fun ds μ => match ds with
  | [a1, a2, a3] => j_def (qq := q_too_near_0 a1 a2 a3) (okq_too_near_0 a1 a2 a3)
  | [] => trivial
  | [_] => trivial
  | [_, _] => trivial
  | _ :: _ :: _ :: _ :: _ => trivial
def b_keep_1 : Rho → Out :=
  (sCons (sIf (eTest (eCall m_too_near (lCons (eV 0) (lCons (eV 3) (lCons (eV 4) lNil))))) (sCons (sRet (cC (.bool false)))
    sNil) sNil)
    sNil)
def b_keep_2 : Rho → Out :=
  (sCons (sFor [4] (iVal (eCall m_cells_of (lCons (eV 2) lNil))) (hName 4) b_keep_1)
    sNil)
def b_keep : Rho → Out :=
  (sCons (sFor [3, 4] (iVal (eCall m_cells_of (lCons (eV 1) lNil))) (hName 3) b_keep_2)
    (sCons (sRet (cC (.bool true)))
    sNil))
def m_keep : List PyData → List SO → Rv := runP 5 b_keep
def q_keep_1 (a1 : PyData) (x8 : PyData) (x42 : PyData) (s41 : Unit) : O (Unit) :=
  O.bind (O.bind (O.of (R.bind (R.bind (R.bind (R.ok (.sh a1)) fun e58 => R.bind (R.bind (R.ok (.sh x8)) fun e56 => R.bind (R.bind (R.ok (.sh x42)) fun e54 => R.bind (R.ok []) fun l55 => .ok (e54 :: l55)) fun l57 => .ok (e56 :: l57)) fun l59 => .ok (e58 :: l59)) fun l60 => q_too_near (l60.map fz)) toBR)) fun b64 => if b64 = true then O.bind (O.of (R.ok (.sh (.bool false)))) fun o63 => .ret o63 else .next ()) fun s62 => .next ()
theorem okq_keep_1 {μ : List SO} (a1 : PyData) (a3 : PyData) (x8 : PyData) (x42 : PyData) (s41 : Unit) : jS μ b_keep_1 [.ex (.sh a1), .no, .ex (.sh a3), .ex (.sh x8), .ex (.sh x42)] (q_keep_1 a1 x8 x42 s41) (fun (s41 : Unit) => [.ex (.sh a1), .no, .ex (.sh a3), .ex (.sh x8), .no]) := by
  unfold q_keep_1 b_keep_1
  exact (js_seq (st1 := fun (s62 : Unit) => [.ex (.sh a1), .no, .ex (.sh a3), .ex (.sh x8), .no]) (js_if (j_test (j_call okq_too_near (j_lcons (j_v rfl) (j_lcons (j_v rfl) (j_lcons (j_v rfl) j_lnil))))) (js_retc j_c) (js_nil (by exact (.eq (.eq (.eq (.eq (.no .nil)))))))) fun s62 => (js_nil .rf))
def q_keep_2 (a1 : PyData) (a3 : PyData) (x8 : PyData) (s7 : Unit) : O (Unit) :=
  O.bind (O.bind (O.of (R.bind (R.bind (R.bind (R.ok (.sh a3)) fun e38 => R.bind (R.ok []) fun l39 => .ok (e38 :: l39)) fun l40 => q_cells_of (l40.map fz)) itR)) fun z65 => forO z65 (fun x42 s41 => q_keep_1 a1 x8 x42 s41) ()) fun s66 => .next ()
theorem okq_keep_2 {μ : List SO} (a1 : PyData) (a3 : PyData) (x8 : PyData) (s7 : Unit) : jS μ b_keep_2 [.ex (.sh a1), .no, .ex (.sh a3), .ex (.sh x8), .no] (q_keep_2 a1 a3 x8 s7) (fun (s7 : Unit) => [.ex (.sh a1), .no, .ex (.sh a3), .no, .no]) := by
  unfold q_keep_2 b_keep_2
  exact (js_seq (st1 := fun (s66 : Unit) => [.ex (.sh a1), .no, .ex (.sh a3), .ex (.sh x8), .no]) (js_forN (st := fun (s41 : Unit) => [.ex (.sh a1), .no, .ex (.sh a3), .ex (.sh x8), .no]) (j_ival (j_call okq_cells_of (j_lcons (j_v rfl) j_lnil))) .rf (fun x42 s41 => okq_keep_1 a1 a3 x8 x42 s41) (fun _ => rfl)) fun s66 => (js_nil (by exact (.eq (.eq (.eq (.no (.eq .nil))))))))
def q_keep_0 (a1 : PyData) (a2 : PyData) (a3 : PyData) : O Unit :=
  O.bind (O.bind (O.of (R.bind (R.bind (R.bind (R.ok (.sh a2)) fun e4 => R.bind (R.ok []) fun l5 => .ok (e4 :: l5)) fun l6 => q_cells_of (l6.map fz)) itR)) fun z67 => forO z67 (fun x8 s7 => q_keep_2 a1 a3 x8 s7) ()) fun s68 => O.bind (O.of (R.ok (.sh (.bool true)))) fun o69 => .ret o69
theorem okq_keep_0 {μ : List SO} (a1 : PyData) (a2 : PyData) (a3 : PyData) : jS μ b_keep [.ex (.sh a1), .ex (.sh a2), .ex (.sh a3), .un, .un] (q_keep_0 a1 a2 a3) (fun _ : Unit => [.no, .no, .no, .no, .no]) := by
  unfold q_keep_0 b_keep
  exact (js_seq (st1 := fun (s68 : Unit) => [.ex (.sh a1), .no, .ex (.sh a3), .no, .no]) (js_forN (st := fun (s7 : Unit) => [.ex (.sh a1), .no, .ex (.sh a3), .no, .no]) (j_ival (j_call okq_cells_of (j_lcons (j_v rfl) j_lnil))) (by exact (.eq (.no (.eq (.eq (.eq .nil)))))) (fun x8 s7 => okq_keep_2 a1 a3 x8 s7) (fun _ => rfl)) fun s68 => (js_retc j_c))
def q_keep : List PyData → R OV
  | [a1, a2, a3] => O.fin (q_keep_0 a1 a2 a3)
  | _ => .stk
theorem okq_keep : jP m_keep q_keep := fun ds μ => match ds with
  | [a1, a2, a3] => j_def (qq := q_keep_0 a1 a2 a3) (okq_keep_0 a1 a2 a3)
  | [] => trivial
  | [_] => trivial
  | [_, _] => trivial
  | _ :: _ :: _ :: _ :: _ => trivial
def b__law_cells_1 : Rho → Out :=
  (sCons (sExpr (eMut 5 "list" mApp (lCons (eTup (lCons (eBin gAdd (eV 1) (eMul (eV 6) (eFn (g1 dInt) (lCons (eBin (gEq false) (eV 3) (cC (.str "down"))) lNil)))) (lCons (eBin gAdd (eV 2) (eMul (eV 6) (eFn (g1 dInt) (lCons (eBin (gEq false) (eV 3) (cC (.str "along"))) lNil)))) lNil))) lNil)))
    sNil)
def b__law_cells : Rho → Out :=
  (sCons (sAsg (hTup 4 (hCons (hName 1) (hCons (hName 2) (hCons (hName 3) (hCons (hName 4) hNil))))) (eV 0))
    (sCons (sSet 5 (eLst lNil))
    (sCons (sFor [6] (iRange1 (eV 4)) (hName 6) b__law_cells_1)
    (sCons (sRet (eM 5))
    sNil))))
def m__law_cells : List PyData → List SO → Rv := runP 7 b__law_cells
def q__law_cells_1 (t2 : List PyData) (x37 : PyData) (s36 : OV) : O (OV) :=
  O.bind (O.of (R.bind (ownR "list" s36) fun _ => R.bind (R.bind (R.bind (R.bind (R.bind (R.ok (.sh (nd t2 0))) fun e73 => R.bind (R.bind (R.ok (.sh x37)) fun e71 => R.bind (R.bind (R.bind (R.bind (R.ok (.sh (nd t2 2))) fun e66 => R.bind (R.ok (.sh (.str "down"))) fun e67 => ofOR (gEq false e66 e67)) fun e68 => R.bind (R.ok []) fun l69 => .ok (e68 :: l69)) fun l70 => ofOR ((g1 dInt) l70)) fun e72 => ofOR (gMulI e71 e72)) fun e74 => ofOR (gAdd e73 e74)) fun e86 => R.bind (R.bind (R.bind (R.ok (.sh (nd t2 1))) fun e82 => R.bind (R.bind (R.ok (.sh x37)) fun e80 => R.bind (R.bind (R.bind (R.bind (R.ok (.sh (nd t2 2))) fun e75 => R.bind (R.ok (.sh (.str "along"))) fun e76 => ofOR (gEq false e75 e76)) fun e77 => R.bind (R.ok []) fun l78 => .ok (e77 :: l78)) fun l79 => ofOR ((g1 dInt) l79)) fun e81 => ofOR (gMulI e80 e81)) fun e83 => ofOR (gAdd e82 e83)) fun e84 => R.bind (R.ok []) fun l85 => .ok (e84 :: l85)) fun l87 => .ok (e86 :: l87)) fun l88 => szR l88.length (.sh (.tuple (l88.map fz)))) fun e89 => R.bind (R.ok []) fun l90 => .ok (e89 :: l90)) fun l92 => R.bind (mutR mApp s36 l92) fun r93 => .ok r93.1)) fun (v91 : OV) => .next v91
theorem okq__law_cells_1 {μ : List SO} (t2 : List PyData) (x37 : PyData) (s36 : OV) : jS μ b__law_cells_1 [.no, .ex (.sh (nd t2 0)), .ex (.sh (nd t2 1)), .ex (.sh (nd t2 2)), .no, .ex s36, .ex (.sh x37)] (q__law_cells_1 t2 x37 s36) (fun (s36 : OV) => [.no, .ex (.sh (nd t2 0)), .ex (.sh (nd t2 1)), .ex (.sh (nd t2 2)), .no, .ex s36, .no]) := by
  unfold q__law_cells_1 b__law_cells_1
  exact (js_seq (st1 := fun (v91 : OV) => [.no, .ex (.sh (nd t2 0)), .ex (.sh (nd t2 1)), .ex (.sh (nd t2 2)), .no, .ex v91, .ex (.sh x37)]) (js_mut rfl (j_lcons (j_tup (j_lcons (j_bin (j_v rfl) (j_bin (j_v rfl) (j_fn (j_lcons (j_bin (j_v rfl) j_c) j_lnil)))) (j_lcons (j_bin (j_v rfl) (j_bin (j_v rfl) (j_fn (j_lcons (j_bin (j_v rfl) j_c) j_lnil)))) j_lnil))) j_lnil) rfl) fun v91 => (js_nil (by exact (.eq (.eq (.eq (.eq (.eq (.eq (.no .nil))))))))))
def q__law_cells_0 (a1 : PyData) : O Unit :=
  O.bind (O.of (R.bind (R.ok (.sh a1)) fun o3 => unT 4 (fz o3))) fun t2 => O.bind (O.of (R.bind (R.ok []) fun l4 => szR l4.length (.lst l4))) fun (v5 : OV) => O.bind (O.bind (O.of (R.bind (R.ok (.sh (nd t2 3))) rng1R)) fun z94 => forO z94 (fun x37 s36 => q__law_cells_1 t2 x37 s36) v5) fun (s95 : OV) => O.bind (O.of (R.ok s95)) fun o96 => .ret o96
theorem okq__law_cells_0 {μ : List SO} (a1 : PyData) : jS μ b__law_cells [.ex (.sh a1), .un, .un, .un, .un, .un, .un] (q__law_cells_0 a1) (fun _ : Unit => [.no, .no, .no, .no, .no, .no, .no]) := by
  unfold q__law_cells_0 b__law_cells
  exact (js_seq (st1 := fun (t2 : List PyData) => [.ex (.sh a1), .ex (.sh (nd t2 0)), .ex (.sh (nd t2 1)), .ex (.sh (nd t2 2)), .ex (.sh (nd t2 3)), .un, .un]) (js_asg (pt := fun _ _ => []) (pt' := fun t2 => [.ex (.sh a1), .ex (.sh (nd t2 0)), .ex (.sh (nd t2 1)), .ex (.sh (nd t2 2)), .ex (.sh (nd t2 3)), .un, .un]) (j_v rfl) fun _ => (jt_tup fun t2 => (jts_cons (by decide) (jts_cons (by decide) (jts_cons (by decide) (jts_cons (by decide) jts_nil)))))) fun t2 => (js_seq (st1 := fun (v5 : OV) => [.ex (.sh a1), .ex (.sh (nd t2 0)), .ex (.sh (nd t2 1)), .ex (.sh (nd t2 2)), .ex (.sh (nd t2 3)), .ex v5, .un]) (js_set (j_lst j_lnil)) fun v5 => (js_seq (st1 := fun (s95 : OV) => [.no, .ex (.sh (nd t2 0)), .ex (.sh (nd t2 1)), .ex (.sh (nd t2 2)), .no, .ex s95, .no]) (js_forN (st := fun (s36 : OV) => [.no, .ex (.sh (nd t2 0)), .ex (.sh (nd t2 1)), .ex (.sh (nd t2 2)), .no, .ex s36, .no]) (j_irange1 (j_v rfl)) (by exact (.no (.eq (.eq (.eq (.no (.eq (.eq .nil)))))))) (fun x37 s36 => okq__law_cells_1 t2 x37 s36) (fun _ => rfl)) fun s95 => (js_retc (j_m rfl)))))
def q__law_cells : List PyData → R OV
  | [a1] => O.fin (q__law_cells_0 a1)
  | _ => .stk
theorem okq__law_cells : jP m__law_cells q__law_cells := fun ds μ => match ds with
  | [a1] => j_def (qq := q__law_cells_0 a1) (okq__law_cells_0 a1)
  | [] => trivial
  | _ :: _ :: _ => trivial
def b__law_halo_1 : Rho → Out :=
  (sCons (sSetIx 2 (cC (.bool true)) (eTup (lCons (eBin gAdd (eV 4) (eV 6)) (lCons (eBin gAdd (eV 5) (eV 7)) lNil))))
    sNil)
def b__law_halo_2 : Rho → Out :=
  (sCons (sFor [6, 7] (iVal (eV 3)) (hTup 2 (hCons (hName 6) (hCons (hName 7) hNil))) b__law_halo_1)
    sNil)
def b__law_halo : Rho → Out :=
  (sCons (sSet 2 eDT)
    (sCons (sSet 3 (eLst (lCons (eTup (lCons (cC (.int 0)) (lCons (cC (.int 0)) lNil))) lNil)))
    (sCons (sIf (eTest (eBin (gEq true) (eV 0) (cC (.str "free")))) (sCons (sSet 3 (eBin gAdd (eV 3) (eLst (lCons (eTup (lCons (cC (.int 0)) (lCons (cC (.int 1)) lNil))) (lCons (eTup (lCons (cC (.int 1)) (lCons (cC (.int 0)) lNil))) (lCons (eTup (lCons (cC (.int 0)) (lCons (eNeg (cC (.int 1))) lNil))) (lCons (eTup (lCons (eNeg (cC (.int 1))) (lCons (cC (.int 0)) lNil))) lNil)))))))
    sNil) sNil)
    (sCons (sIf (eTest (eBin (gEq false) (eV 0) (cC (.str "corners")))) (sCons (sSet 3 (eBin gAdd (eV 3) (eLst (lCons (eTup (lCons (cC (.int 1)) (lCons (cC (.int 1)) lNil))) (lCons (eTup (lCons (cC (.int 1)) (lCons (eNeg (cC (.int 1))) lNil))) (lCons (eTup (lCons (eNeg (cC (.int 1))) (lCons (cC (.int 1)) lNil))) (lCons (eTup (lCons (eNeg (cC (.int 1))) (lCons (eNeg (cC (.int 1))) lNil))) lNil)))))))
    sNil) sNil)
    (sCons (sFor [4, 5, 6, 7] (iVal (eCall m__law_cells (lCons (eV 1) lNil))) (hTup 2 (hCons (hName 4) (hCons (hName 5) hNil))) b__law_halo_2)
    (sCons (sRet (eM 2))
    sNil))))))
def m__law_halo : List PyData → List SO → Rv := runP 8 b__law_halo
def q__law_halo_1 (t213 : List PyData) (t275 : List PyData) (x274 : PyData) (s273 : OV) : O (OV) :=
  O.bind (O.of (R.bind (R.ok (.sh (.bool true))) fun o298 => R.bind (R.bind (R.bind (R.bind (R.ok (.sh (nd t213 0))) fun e288 => R.bind (R.ok (.sh (nd t275 0))) fun e289 => ofOR (gAdd e288 e289)) fun e294 => R.bind (R.bind (R.bind (R.ok (.sh (nd t213 1))) fun e290 => R.bind (R.ok (.sh (nd t275 1))) fun e291 => ofOR (gAdd e290 e291)) fun e292 => R.bind (R.ok []) fun l293 => .ok (e292 :: l293)) fun l295 => .ok (e294 :: l295)) fun l296 => szR l296.length (.sh (.tuple (l296.map fz)))) fun k299 => setR s273 k299 o298)) fun (v297 : OV) => .next v297
theorem okq__law_halo_1 {μ : List SO} (s123 : OV) (t213 : List PyData) (t275 : List PyData) (x274 : PyData) (s273 : OV) : jS μ b__law_halo_1 [.no, .no, .ex s273, .fr (fz s123), .ex (.sh (nd t213 0)), .ex (.sh (nd t213 1)), .ex (.sh (nd t275 0)), .ex (.sh (nd t275 1))] (q__law_halo_1 t213 t275 x274 s273) (fun (s273 : OV) => [.no, .no, .ex s273, .fr (fz s123), .ex (.sh (nd t213 0)), .ex (.sh (nd t213 1)), .no, .no]) := by
  unfold q__law_halo_1 b__law_halo_1
  exact (js_seq (st1 := fun (v297 : OV) => [.no, .no, .ex v297, .fr (fz s123), .ex (.sh (nd t213 0)), .ex (.sh (nd t213 1)), .ex (.sh (nd t275 0)), .ex (.sh (nd t275 1))]) (js_setIx j_c rfl rfl (j_tup (j_lcons (j_bin (j_v rfl) (j_v rfl)) (j_lcons (j_bin (j_v rfl) (j_v rfl)) j_lnil))) rfl) fun v297 => (js_nil (by exact (.eq (.eq (.eq (.eq (.eq (.eq (.no (.no .nil)))))))))))
def q__law_halo_2 (s123 : OV) (t213 : List PyData) (x212 : PyData) (s211 : OV) : O (OV) :=
  O.bind (O.bind (O.of (R.bind (R.ok (.sh (fz s123))) itR)) fun z300 => forO z300 (fun x274 s273 => O.bind (O.of (unT 2 (fz (.sh x274)))) fun t275 => q__law_halo_1 t213 t275 x274 s273) s211) fun (s301 : OV) => .next s301
theorem okq__law_halo_2 {μ : List SO} (s123 : OV) (t213 : List PyData) (x212 : PyData) (s211 : OV) : jS μ b__law_halo_2 [.no, .no, .ex s211, .fr (fz s123), .ex (.sh (nd t213 0)), .ex (.sh (nd t213 1)), .no, .no] (q__law_halo_2 s123 t213 x212 s211) (fun (s211 : OV) => [.no, .no, .ex s211, .fr (fz s123), .no, .no, .no, .no]) := by
  unfold q__law_halo_2 b__law_halo_2
  exact (js_seq (st1 := fun (s301 : OV) => [.no, .no, .ex s301, .fr (fz s123), .ex (.sh (nd t213 0)), .ex (.sh (nd t213 1)), .no, .no]) (js_for (st := fun (s273 : OV) => [.no, .no, .ex s273, .fr (fz s123), .ex (.sh (nd t213 0)), .ex (.sh (nd t213 1)), .no, .no]) (pt := fun x274 s273 t275 => [.no, .no, .ex s273, .fr (fz s123), .ex (.sh (nd t213 0)), .ex (.sh (nd t213 1)), .ex (.sh (nd t275 0)), .ex (.sh (nd t275 1))]) (j_ival (j_vf rfl)) .rf (fun x274 s273 => (jt_tup fun t275 => (jts_cons (by decide) (jts_cons (by decide) jts_nil)))) (fun x274 s273 t275 => okq__law_halo_1 s123 t213 t275 x274 s273) (fun _ => rfl)) fun s301 => (js_nil (by exact (.eq (.eq (.eq (.eq (.no (.no (.eq (.eq .nil)))))))))))
def q__law_halo_0 (a1 : PyData) (a2 : PyData) : O Unit :=
  O.bind (O.of (R.ok (.dt []))) fun (v3 : OV) => O.bind (O.of (R.bind (R.bind (R.bind (R.bind (R.ok (.sh (.int 0))) fun e6 => R.bind (R.bind (R.ok (.sh (.int 0))) fun e4 => R.bind (R.ok []) fun l5 => .ok (e4 :: l5)) fun l7 => .ok (e6 :: l7)) fun l8 => szR l8.length (.sh (.tuple (l8.map fz)))) fun e9 => R.bind (R.ok []) fun l10 => .ok (e9 :: l10)) fun l11 => szR l11.length (.lst l11))) fun (v12 : OV) => O.bind (O.bind (O.of (R.bind (R.bind (R.ok (.sh a1)) fun e13 => R.bind (R.ok (.sh (.str "free"))) fun e14 => ofOR (gEq true e13 e14)) toBR)) fun b84 => if b84 = true then O.bind (O.of (R.bind (R.ok (.sh (fz v12))) fun e81 => R.bind (R.bind (R.bind (R.bind (R.bind (R.ok (.sh (.int 0))) fun e52 => R.bind (R.bind (R.ok (.sh (.int 1))) fun e50 => R.bind (R.ok []) fun l51 => .ok (e50 :: l51)) fun l53 => .ok (e52 :: l53)) fun l54 => szR l54.length (.sh (.tuple (l54.map fz)))) fun e78 => R.bind (R.bind (R.bind (R.bind (R.ok (.sh (.int 1))) fun e57 => R.bind (R.bind (R.ok (.sh (.int 0))) fun e55 => R.bind (R.ok []) fun l56 => .ok (e55 :: l56)) fun l58 => .ok (e57 :: l58)) fun l59 => szR l59.length (.sh (.tuple (l59.map fz)))) fun e76 => R.bind (R.bind (R.bind (R.bind (R.ok (.sh (.int 0))) fun e63 => R.bind (R.bind (R.bind (R.ok (.sh (.int 1))) fun e60 => ofOR ((gI fun i => .int (-i)) e60)) fun e61 => R.bind (R.ok []) fun l62 => .ok (e61 :: l62)) fun l64 => .ok (e63 :: l64)) fun l65 => szR l65.length (.sh (.tuple (l65.map fz)))) fun e74 => R.bind (R.bind (R.bind (R.bind (R.bind (R.ok (.sh (.int 1))) fun e66 => ofOR ((gI fun i => .int (-i)) e66)) fun e69 => R.bind (R.bind (R.ok (.sh (.int 0))) fun e67 => R.bind (R.ok []) fun l68 => .ok (e67 :: l68)) fun l70 => .ok (e69 :: l70)) fun l71 => szR l71.length (.sh (.tuple (l71.map fz)))) fun e72 => R.bind (R.ok []) fun l73 => .ok (e72 :: l73)) fun l75 => .ok (e74 :: l75)) fun l77 => .ok (e76 :: l77)) fun l79 => .ok (e78 :: l79)) fun l80 => szR l80.length (.lst l80)) fun e82 => ofOR (gAdd e81 e82))) fun (v83 : OV) => .next v83 else .next v12) fun (s49 : OV) => O.bind (O.bind (O.of (R.bind (R.bind (R.ok (.sh a1)) fun e85 => R.bind (R.ok (.sh (.str "corners"))) fun e86 => ofOR (gEq false e85 e86)) toBR)) fun b160 => if b160 = true then O.bind (O.of (R.bind (R.ok (.sh (fz s49))) fun e157 => R.bind (R.bind (R.bind (R.bind (R.bind (R.ok (.sh (.int 1))) fun e126 => R.bind (R.bind (R.ok (.sh (.int 1))) fun e124 => R.bind (R.ok []) fun l125 => .ok (e124 :: l125)) fun l127 => .ok (e126 :: l127)) fun l128 => szR l128.length (.sh (.tuple (l128.map fz)))) fun e154 => R.bind (R.bind (R.bind (R.bind (R.ok (.sh (.int 1))) fun e132 => R.bind (R.bind (R.bind (R.ok (.sh (.int 1))) fun e129 => ofOR ((gI fun i => .int (-i)) e129)) fun e130 => R.bind (R.ok []) fun l131 => .ok (e130 :: l131)) fun l133 => .ok (e132 :: l133)) fun l134 => szR l134.length (.sh (.tuple (l134.map fz)))) fun e152 => R.bind (R.bind (R.bind (R.bind (R.bind (R.ok (.sh (.int 1))) fun e135 => ofOR ((gI fun i => .int (-i)) e135)) fun e138 => R.bind (R.bind (R.ok (.sh (.int 1))) fun e136 => R.bind (R.ok []) fun l137 => .ok (e136 :: l137)) fun l139 => .ok (e138 :: l139)) fun l140 => szR l140.length (.sh (.tuple (l140.map fz)))) fun e150 => R.bind (R.bind (R.bind (R.bind (R.bind (R.ok (.sh (.int 1))) fun e141 => ofOR ((gI fun i => .int (-i)) e141)) fun e145 => R.bind (R.bind (R.bind (R.ok (.sh (.int 1))) fun e142 => ofOR ((gI fun i => .int (-i)) e142)) fun e143 => R.bind (R.ok []) fun l144 => .ok (e143 :: l144)) fun l146 => .ok (e145 :: l146)) fun l147 => szR l147.length (.sh (.tuple (l147.map fz)))) fun e148 => R.bind (R.ok []) fun l149 => .ok (e148 :: l149)) fun l151 => .ok (e150 :: l151)) fun l153 => .ok (e152 :: l153)) fun l155 => .ok (e154 :: l155)) fun l156 => szR l156.length (.lst l156)) fun e158 => ofOR (gAdd e157 e158))) fun (v159 : OV) => .next v159 else .next s49) fun (s123 : OV) => O.bind (O.bind (O.of (R.bind (R.bind (R.bind (R.ok (.sh a2)) fun e161 => R.bind (R.ok []) fun l162 => .ok (e161 :: l162)) fun l163 => q__law_cells (l163.map fz)) itR)) fun z302 => forO z302 (fun x212 s211 => O.bind (O.of (unT 2 (fz (.sh x212)))) fun t213 => q__law_halo_2 s123 t213 x212 s211) v3) fun (s303 : OV) => O.bind (O.of (R.ok s303)) fun o304 => .ret o304
theorem okq__law_halo_0 {μ : List SO} (a1 : PyData) (a2 : PyData) : jS μ b__law_halo [.ex (.sh a1), .ex (.sh a2), .un, .un, .un, .un, .un, .un] (q__law_halo_0 a1 a2) (fun _ : Unit => [.no, .no, .no, .no, .no, .no, .no, .no]) := by
  unfold q__law_halo_0 b__law_halo
  exact (js_seq (st1 := fun (v3 : OV) => [.ex (.sh a1), .ex (.sh a2), .ex v3, .un, .un, .un, .un, .un]) (js_set j_dT) fun v3 => (js_seq (st1 := fun (v12 : OV) => [.ex (.sh a1), .ex (.sh a2), .ex v3, .ex v12, .un, .un, .un, .un]) (js_set (j_lst (j_lcons (j_tup (j_lcons j_c (j_lcons j_c j_lnil))) j_lnil))) fun v12 => (js_seq (st1 := fun (s49 : OV) => [.ex (.sh a1), .ex (.sh a2), .ex v3, .ex s49, .no, .no, .no, .no]) (js_if (j_test (j_bin (j_v rfl) j_c)) (js_seq (st1 := fun (v83 : OV) => [.ex (.sh a1), .ex (.sh a2), .ex v3, .ex v83, .un, .un, .un, .un]) (js_set (j_bin (j_vx rfl) (j_lst (j_lcons (j_tup (j_lcons j_c (j_lcons j_c j_lnil))) (j_lcons (j_tup (j_lcons j_c (j_lcons j_c j_lnil))) (j_lcons (j_tup (j_lcons j_c (j_lcons (j_un j_c) j_lnil))) (j_lcons (j_tup (j_lcons (j_un j_c) (j_lcons j_c j_lnil))) j_lnil))))))) fun v83 => (js_nil (by exact (.eq (.eq (.eq (.eq (.no (.no (.no (.no .nil))))))))))) (js_nil (by exact (.eq (.eq (.eq (.eq (.no (.no (.no (.no .nil))))))))))) fun s49 => (js_seq (st1 := fun (s123 : OV) => [.no, .ex (.sh a2), .ex v3, .ex s123, .no, .no, .no, .no]) (js_if (j_test (j_bin (j_v rfl) j_c)) (js_seq (st1 := fun (v159 : OV) => [.ex (.sh a1), .ex (.sh a2), .ex v3, .ex v159, .no, .no, .no, .no]) (js_set (j_bin (j_vx rfl) (j_lst (j_lcons (j_tup (j_lcons j_c (j_lcons j_c j_lnil))) (j_lcons (j_tup (j_lcons j_c (j_lcons (j_un j_c) j_lnil))) (j_lcons (j_tup (j_lcons (j_un j_c) (j_lcons j_c j_lnil))) (j_lcons (j_tup (j_lcons (j_un j_c) (j_lcons (j_un j_c) j_lnil))) j_lnil))))))) fun v159 => (js_nil (by exact (.no (.eq (.eq (.eq (.eq (.eq (.eq (.eq .nil))))))))))) (js_nil (by exact (.no (.eq (.eq (.eq (.eq (.eq (.eq (.eq .nil))))))))))) fun s123 => (js_seq (st1 := fun (s303 : OV) => [.no, .no, .ex s303, .fr (fz s123), .no, .no, .no, .no]) (js_for (st := fun (s211 : OV) => [.no, .no, .ex s211, .fr (fz s123), .no, .no, .no, .no]) (pt := fun x212 s211 t213 => [.no, .no, .ex s211, .fr (fz s123), .ex (.sh (nd t213 0)), .ex (.sh (nd t213 1)), .no, .no]) (j_ival (j_call okq__law_cells (j_lcons (j_v rfl) j_lnil))) (by exact (.eq (.no (.eq (.fr (.eq (.eq (.eq (.eq .nil))))))))) (fun x212 s211 => (jt_tup fun t213 => (jts_cons (by decide) (jts_cons (by decide) jts_nil)))) (fun x212 s211 t213 => okq__law_halo_2 s123 t213 x212 s211) (fun _ => rfl)) fun s303 => (js_retc (j_m rfl)))))))
def q__law_halo : List PyData → R OV
  | [a1, a2] => O.fin (q__law_halo_0 a1 a2)
  | _ => .stk
theorem okq__law_halo : jP m__law_halo q__law_halo := fun ds μ => match ds with
  | [a1, a2] => j_def (qq := q__law_halo_0 a1 a2) (okq__law_halo_0 a1 a2)
  | [] => trivial
  | [_] => trivial
  | _ :: _ :: _ :: _ => trivial
def b_is_hiding_1 : Rho → Out :=
  (sCons (sIf (bAnd (eTest (eBin (gGt) (eV 6) (cC (.int 0)))) (bAnd (eTest (eBin (gEq false) (eBin gSub (eV 4) (cC (.int 3))) (eBin gSub (eBin gSub (eV 3) (eSub (eV 6) (cC (.int 1)))) (cC (.int 3))))) (eTest (eBin (gLe) (eV 4) (eBin gSub (eV 3) (eSub (eV 6) (cC (.int 1)))))))) (sCons (sRet (cC (.bool false)))
    sNil) sNil)
    (sCons (sIf (bNot (eTest (eFn (g1 (dAll fun bs => bs.all id)) (lCons (eLc [7] (iVal (eSl (eV 3) none (some (eV 6)))) (hName 7) tYesR (eCall m_keep (lCons (eV 2) (lCons (eV 4) (lCons (eV 7) lNil))))) lNil)))) (sCons (sRet (cC (.bool false)))
    sNil) sNil)
    sNil))
def b_is_hiding_2 : Rho → Out :=
  (sCons (sIf (bOr (bNot (eTest (eCall m_is_ship (lCons (eV 0) (lCons (eV 4) lNil))))) (eTest (eBin (gEq true) (eBin gSub (eV 4) (cC (.int 3))) (eV 5)))) (sCons (sRet (cC (.bool false)))
    sNil) sNil)
    sNil)
def b_is_hiding : Rho → Out :=
  (sCons (sIf (bOr (bNot (eTest (eFn (gIsi "tuple") (lCons (eV 3) lNil)))) (eTest (eBin (gEq true) (eFn (g1 dLen) (lCons (eV 3) lNil)) (eFn (g1 dLen) (lCons (eV 1) lNil))))) (sCons (sRet (cC (.bool false)))
    sNil) sNil)
    (sCons (sFor [4, 5] (iZip (lCons (eV 3) (lCons (eV 1) lNil))) (hTup 2 (hCons (hName 4) (hCons (hName 5) hNil))) b_is_hiding_2)
    (sCons (sFor [4, 6, 7] (iEnumA (eV 3)) (hTup 2 (hCons (hName 6) (hCons (hName 4) hNil))) b_is_hiding_1)
    (sCons (sRet (cC (.bool true)))
    sNil))))
def m_is_hiding : List PyData → List SO → Rv := runP 8 b_is_hiding
def q_is_hiding_2 (a1 : PyData) (t28 : List PyData) (x27 : PyData) (s26 : Unit) : O (Unit) :=
  O.bind (O.bind (O.of (R.bind (R.bind (R.bind (R.bind (R.bind (R.ok (.sh a1)) fun e46 => R.bind (R.bind (R.ok (.sh (nd t28 0))) fun e44 => R.bind (R.ok []) fun l45 => .ok (e44 :: l45)) fun l47 => .ok (e46 :: l47)) fun l48 => q_is_ship (l48.map fz)) toBR) fun b49 => .ok (!b49)) fun b54 => if b54 = true then .ok true else (R.bind (R.bind (R.bind (R.ok (.sh (nd t28 0))) fun e50 => R.bind (R.ok (.sh (.int 3))) fun e51 => ofOR (gSub e50 e51)) fun e52 => R.bind (R.ok (.sh (nd t28 1))) fun e53 => ofOR (gEq true e52 e53)) toBR))) fun b58 => if b58 = true then O.bind (O.of (R.ok (.sh (.bool false)))) fun o57 => .ret o57 else .next ()) fun s56 => .next ()
theorem okq_is_hiding_2 {μ : List SO} (a1 : PyData) (a3 : PyData) (a4 : PyData) (t28 : List PyData) (x27 : PyData) (s26 : Unit) : jS μ b_is_hiding_2 [.ex (.sh a1), .no, .ex (.sh a3), .ex (.sh a4), .ex (.sh (nd t28 0)), .ex (.sh (nd t28 1)), .no, .no] (q_is_hiding_2 a1 t28 x27 s26) (fun (s26 : Unit) => [.ex (.sh a1), .no, .ex (.sh a3), .ex (.sh a4), .no, .no, .no, .no]) := by
  unfold q_is_hiding_2 b_is_hiding_2
  exact (js_seq (st1 := fun (s56 : Unit) => [.ex (.sh a1), .no, .ex (.sh a3), .ex (.sh a4), .no, .no, .no, .no]) (js_if (j_bor (j_not (j_test (j_call okq_is_ship (j_lcons (j_v rfl) (j_lcons (j_v rfl) j_lnil))))) (j_test (j_bin (j_bin (j_v rfl) j_c) (j_v rfl))) .rf) (js_retc j_c) (js_nil (by exact (.eq (.eq (.eq (.eq (.no (.no (.eq (.eq .nil))))))))))) fun s56 => (js_nil .rf))
def q_is_hiding_1 (a3 : PyData) (a4 : PyData) (t63 : List PyData) (x62 : PyData) (s61 : Unit) : O (Unit) :=
  O.bind (O.bind (O.of (R.bind (R.bind (R.bind (R.ok (.sh (nd t63 0))) fun e112 => R.bind (R.ok (.sh (.int 0))) fun e113 => ofOR (gGt e112 e113)) toBR) fun b131 => if b131 = true then (R.bind (R.bind (R.bind (R.bind (R.ok (.sh (nd t63 1))) fun e114 => R.bind (R.ok (.sh (.int 3))) fun e115 => ofOR (gSub e114 e115)) fun e122 => R.bind (R.bind (R.bind (R.ok (.sh a4)) fun e118 => R.bind (R.bind (R.ok (.sh (nd t63 0))) fun e116 => R.bind (R.ok (.sh (.int 1))) fun e117 => ofOR (gSubI e116 e117)) fun e119 => ofOR (gSub e118 e119)) fun e120 => R.bind (R.ok (.sh (.int 3))) fun e121 => ofOR (gSub e120 e121)) fun e123 => ofOR (gEq false e122 e123)) toBR) fun b130 => if b130 = true then (R.bind (R.bind (R.ok (.sh (nd t63 1))) fun e128 => R.bind (R.bind (R.ok (.sh a4)) fun e126 => R.bind (R.bind (R.ok (.sh (nd t63 0))) fun e124 => R.bind (R.ok (.sh (.int 1))) fun e125 => ofOR (gSubI e124 e125)) fun e127 => ofOR (gSub e126 e127)) fun e129 => ofOR (gLe e128 e129)) toBR) else .ok false) else .ok false)) fun b135 => if b135 = true then O.bind (O.of (R.ok (.sh (.bool false)))) fun o134 => .ret o134 else .next ()) fun s133 => O.bind (O.bind (O.of (R.bind (R.bind (R.bind (R.bind (R.bind (R.bind (R.bind (R.ok (.sh a4)) fun e138 => R.bind (R.ok none) fun i139 => R.bind (R.bind (R.ok (.sh (nd t63 0))) fun e136 => R.bind (iR e136) fun i137 => .ok (some i137)) fun i140 => ofOR (gSl e138 i139 i140)) itR) fun z150 => R.bind (lcR (fun x141 => R.bind (R.bind (R.bind (R.ok (.sh a3)) fun e146 => R.bind (R.bind (R.ok (.sh (nd t63 1))) fun e144 => R.bind (R.bind (R.ok (.sh x141)) fun e142 => R.bind (R.ok []) fun l143 => .ok (e142 :: l143)) fun l145 => .ok (e144 :: l145)) fun l147 => .ok (e146 :: l147)) fun l148 => q_keep (l148.map fz)) fun o149 => .ok (some o149)) z150) fun l151 => szR l151.length (.lst l151)) fun e152 => R.bind (R.ok []) fun l153 => .ok (e152 :: l153)) fun l154 => ofOR ((g1 (dAll fun bs => bs.all id)) l154)) toBR) fun b155 => .ok (!b155))) fun b159 => if b159 = true then O.bind (O.of (R.ok (.sh (.bool false)))) fun o158 => .ret o158 else .next ()) fun s157 => .next ()
theorem okq_is_hiding_1 {μ : List SO} (a3 : PyData) (a4 : PyData) (t63 : List PyData) (x62 : PyData) (s61 : Unit) : jS μ b_is_hiding_1 [.no, .no, .ex (.sh a3), .ex (.sh a4), .ex (.sh (nd t63 1)), .no, .ex (.sh (nd t63 0)), .no] (q_is_hiding_1 a3 a4 t63 x62 s61) (fun (s61 : Unit) => [.no, .no, .ex (.sh a3), .ex (.sh a4), .no, .no, .no, .no]) := by
  unfold q_is_hiding_1 b_is_hiding_1
  exact (js_seq (st1 := fun (s133 : Unit) => [.no, .no, .ex (.sh a3), .ex (.sh a4), .ex (.sh (nd t63 1)), .no, .ex (.sh (nd t63 0)), .no]) (js_if (j_band (j_test (j_bin (j_v rfl) j_c)) (j_band (j_test (j_bin (j_bin (j_v rfl) j_c) (j_bin (j_bin (j_v rfl) (j_bin (j_v rfl) j_c)) j_c))) (j_test (j_bin (j_v rfl) (j_bin (j_v rfl) (j_bin (j_v rfl) j_c)))) .rf) .rf) (js_retc j_c) (js_nil .rf)) fun s133 => (js_seq (st1 := fun (s157 : Unit) => [.no, .no, .ex (.sh a3), .ex (.sh a4), .no, .no, .no, .no]) (js_if (j_not (j_test (j_fn (j_lcons (j_lc (pc := [.no, .no, .ex (.sh a3), .ex (.sh a4), .ex (.sh (nd t63 1)), .no, .ex (.sh (nd t63 0)), .no]) (j_ival (j_sl (j_v rfl) j_ono (j_osome (j_v rfl)))) .rf fun x141 => (j_turn1N (j_call okq_keep (j_lcons (j_v rfl) (j_lcons (j_v rfl) (j_lcons (j_v rfl) j_lnil)))) .rf)) j_lnil)))) (js_retc j_c) (js_nil (by exact (.eq (.eq (.eq (.eq (.no (.eq (.no (.eq .nil))))))))))) fun s157 => (js_nil .rf)))
def q_is_hiding_0 (a1 : PyData) (a2 : PyData) (a3 : PyData) (a4 : PyData) : O Unit :=
  O.bind (O.bind (O.of (R.bind (R.bind (R.bind (R.bind (R.bind (R.ok (.sh a4)) fun e5 => R.bind (R.ok []) fun l6 => .ok (e5 :: l6)) fun l7 => ofOR (gIsi "tuple" l7)) toBR) fun b8 => .ok (!b8)) fun b17 => if b17 = true then .ok true else (R.bind (R.bind (R.bind (R.bind (R.ok (.sh a4)) fun e9 => R.bind (R.ok []) fun l10 => .ok (e9 :: l10)) fun l11 => ofOR ((g1 dLen) l11)) fun e15 => R.bind (R.bind (R.bind (R.ok (.sh a2)) fun e12 => R.bind (R.ok []) fun l13 => .ok (e12 :: l13)) fun l14 => ofOR ((g1 dLen) l14)) fun e16 => ofOR (gEq true e15 e16)) toBR))) fun b21 => if b21 = true then O.bind (O.of (R.ok (.sh (.bool false)))) fun o20 => .ret o20 else .next ()) fun s19 => O.bind (O.bind (O.of (R.bind (R.bind (R.ok (.sh a4)) fun e24 => R.bind (R.bind (R.ok (.sh a2)) fun e22 => R.bind (R.ok []) fun l23 => .ok (e22 :: l23)) fun l25 => .ok (e24 :: l25)) zipR)) fun z59 => forO z59 (fun x27 s26 => O.bind (O.of (unT 2 (fz (.sh x27)))) fun t28 => q_is_hiding_2 a1 t28 x27 s26) ()) fun s60 => O.bind (O.bind (O.of (R.bind (R.ok (.sh a4)) enR)) fun z160 => forO z160 (fun x62 s61 => O.bind (O.of (unT 2 (fz (.sh x62)))) fun t63 => q_is_hiding_1 a3 a4 t63 x62 s61) ()) fun s161 => O.bind (O.of (R.ok (.sh (.bool true)))) fun o162 => .ret o162
theorem okq_is_hiding_0 {μ : List SO} (a1 : PyData) (a2 : PyData) (a3 : PyData) (a4 : PyData) : jS μ b_is_hiding [.ex (.sh a1), .ex (.sh a2), .ex (.sh a3), .ex (.sh a4), .un, .un, .un, .un] (q_is_hiding_0 a1 a2 a3 a4) (fun _ : Unit => [.no, .no, .no, .no, .no, .no, .no, .no]) := by
  unfold q_is_hiding_0 b_is_hiding
  exact (js_seq (st1 := fun (s19 : Unit) => [.ex (.sh a1), .ex (.sh a2), .ex (.sh a3), .ex (.sh a4), .no, .no, .no, .no]) (js_if (j_bor (j_not (j_test (j_fn (j_lcons (j_v rfl) j_lnil)))) (j_test (j_bin (j_fn (j_lcons (j_v rfl) j_lnil)) (j_fn (j_lcons (j_v rfl) j_lnil)))) .rf) (js_retc j_c) (js_nil (by exact (.eq (.eq (.eq (.eq (.no (.no (.no (.no .nil))))))))))) fun s19 => (js_seq (st1 := fun (s60 : Unit) => [.ex (.sh a1), .no, .ex (.sh a3), .ex (.sh a4), .no, .no, .no, .no]) (js_for (st := fun (s26 : Unit) => [.ex (.sh a1), .no, .ex (.sh a3), .ex (.sh a4), .no, .no, .no, .no]) (pt := fun x27 s26 t28 => [.ex (.sh a1), .no, .ex (.sh a3), .ex (.sh a4), .ex (.sh (nd t28 0)), .ex (.sh (nd t28 1)), .no, .no]) (j_izip (j_lcons (j_v rfl) (j_lcons (j_v rfl) j_lnil))) (by exact (.eq (.no (.eq (.eq (.eq (.eq (.eq (.eq .nil))))))))) (fun x27 s26 => (jt_tup fun t28 => (jts_cons (by decide) (jts_cons (by decide) jts_nil)))) (fun x27 s26 t28 => okq_is_hiding_2 a1 a3 a4 t28 x27 s26) (fun _ => rfl)) fun s60 => (js_seq (st1 := fun (s161 : Unit) => [.no, .no, .ex (.sh a3), .ex (.sh a4), .no, .no, .no, .no]) (js_for (st := fun (s61 : Unit) => [.no, .no, .ex (.sh a3), .ex (.sh a4), .no, .no, .no, .no]) (pt := fun x62 s61 t63 => [.no, .no, .ex (.sh a3), .ex (.sh a4), .ex (.sh (nd t63 1)), .no, .ex (.sh (nd t63 0)), .no]) (j_ienum (j_v rfl)) (by exact (.no (.eq (.eq (.eq (.eq (.eq (.eq (.eq .nil))))))))) (fun x62 s61 => (jt_tup fun t63 => (jts_cons (by decide) (jts_cons (by decide) jts_nil)))) (fun x62 s61 t63 => okq_is_hiding_1 a3 a4 t63 x62 s61) (fun _ => rfl)) fun s161 => (js_retc j_c))))
def q_is_hiding : List PyData → R OV
  | [a1, a2, a3, a4] => O.fin (q_is_hiding_0 a1 a2 a3 a4)
  | _ => .stk
theorem okq_is_hiding : jP m_is_hiding q_is_hiding := fun ds μ => match ds with
  | [a1, a2, a3, a4] => j_def (qq := q_is_hiding_0 a1 a2 a3 a4) (okq_is_hiding_0 a1 a2 a3 a4)
  | [] => trivial
  | [_] => trivial
  | [_, _] => trivial
  | [_, _, _] => trivial
  | _ :: _ :: _ :: _ :: _ :: _ => trivial
def b__law_free_1 : Rho → Out :=
  (sCons (sIf (eTest (eBin (gIn false) (eV 3) (eV 2))) (sCons (sRet (cC (.bool false)))
    sNil) sNil)
    sNil)
def b__law_free_2 : Rho → Out :=
  (sCons (sFor [3] (iVal (eV 1)) (hName 3) b__law_free_1)
    sNil)
def b__law_free : Rho → Out :=
  (sCons (sFor [2, 3] (iVal (eV 0)) (hName 2) b__law_free_2)
    (sCons (sRet (cC (.bool true)))
    sNil))
def m__law_free : List PyData → List SO → Rv := runP 4 b__law_free
def q__law_free_1 (x4 : PyData) (x22 : PyData) (s21 : Unit) : O (Unit) :=
  O.bind (O.bind (O.of (R.bind (R.bind (R.ok (.sh x22)) fun e29 => R.bind (R.ok (.sh x4)) fun e30 => ofOR (gIn false e29 e30)) toBR)) fun b34 => if b34 = true then O.bind (O.of (R.ok (.sh (.bool false)))) fun o33 => .ret o33 else .next ()) fun s32 => .next ()
theorem okq__law_free_1 {μ : List SO} (a2 : PyData) (x4 : PyData) (x22 : PyData) (s21 : Unit) : jS μ b__law_free_1 [.no, .ex (.sh a2), .ex (.sh x4), .ex (.sh x22)] (q__law_free_1 x4 x22 s21) (fun (s21 : Unit) => [.no, .ex (.sh a2), .ex (.sh x4), .no]) := by
  unfold q__law_free_1 b__law_free_1
  exact (js_seq (st1 := fun (s32 : Unit) => [.no, .ex (.sh a2), .ex (.sh x4), .no]) (js_if (j_test (j_bin (j_v rfl) (j_v rfl))) (js_retc j_c) (js_nil (by exact (.eq (.eq (.eq (.no .nil))))))) fun s32 => (js_nil .rf))
def q__law_free_2 (a2 : PyData) (x4 : PyData) (s3 : Unit) : O (Unit) :=
  O.bind (O.bind (O.of (R.bind (R.ok (.sh a2)) itR)) fun z35 => forO z35 (fun x22 s21 => q__law_free_1 x4 x22 s21) ()) fun s36 => .next ()
theorem okq__law_free_2 {μ : List SO} (a2 : PyData) (x4 : PyData) (s3 : Unit) : jS μ b__law_free_2 [.no, .ex (.sh a2), .ex (.sh x4), .no] (q__law_free_2 a2 x4 s3) (fun (s3 : Unit) => [.no, .ex (.sh a2), .no, .no]) := by
  unfold q__law_free_2 b__law_free_2
  exact (js_seq (st1 := fun (s36 : Unit) => [.no, .ex (.sh a2), .ex (.sh x4), .no]) (js_forN (st := fun (s21 : Unit) => [.no, .ex (.sh a2), .ex (.sh x4), .no]) (j_ival (j_v rfl)) .rf (fun x22 s21 => okq__law_free_1 a2 x4 x22 s21) (fun _ => rfl)) fun s36 => (js_nil (by exact (.eq (.eq (.no (.eq .nil)))))))
def q__law_free_0 (a1 : PyData) (a2 : PyData) : O Unit :=
  O.bind (O.bind (O.of (R.bind (R.ok (.sh a1)) itR)) fun z37 => forO z37 (fun x4 s3 => q__law_free_2 a2 x4 s3) ()) fun s38 => O.bind (O.of (R.ok (.sh (.bool true)))) fun o39 => .ret o39
theorem okq__law_free_0 {μ : List SO} (a1 : PyData) (a2 : PyData) : jS μ b__law_free [.ex (.sh a1), .ex (.sh a2), .un, .un] (q__law_free_0 a1 a2) (fun _ : Unit => [.no, .no, .no, .no]) := by
  unfold q__law_free_0 b__law_free
  exact (js_seq (st1 := fun (s38 : Unit) => [.no, .ex (.sh a2), .no, .no]) (js_forN (st := fun (s3 : Unit) => [.no, .ex (.sh a2), .no, .no]) (j_ival (j_v rfl)) (by exact (.no (.eq (.eq (.eq .nil))))) (fun x4 s3 => okq__law_free_2 a2 x4 s3) (fun _ => rfl)) fun s38 => (js_retc j_c))
def q__law_free : List PyData → R OV
  | [a1, a2] => O.fin (q__law_free_0 a1 a2)
  | _ => .stk
theorem okq__law_free : jP m__law_free q__law_free := fun ds μ => match ds with
  | [a1, a2] => j_def (qq := q__law_free_0 a1 a2) (okq__law_free_0 a1 a2)
  | [] => trivial
  | [_] => trivial
  | _ :: _ :: _ :: _ => trivial
def b__law_all_1 : Rho → Out :=
  (sCons (sSet 13 (eOr (eBin (gEq false) (eV 4) (cC (.int 0))) (eOr (eBin (gEq true) (eBin gSub (eV 1) (eSub (eV 4) (cC (.int 1)))) (eV 5)) (eBin (gLt) (eBin gSub (eV 10) (eNeg (cC (.int 1)))) (eBin gSub (eV 6) (eV 12))))))
    (sCons (sIf (bAnd (eTest (eV 13)) (eTest (eCall m__law_free (lCons (eV 11) (lCons (eBin gSub (eV 8) (eV 12)) lNil))))) (sCons (sExpr (eMut 9 "list" mApp (lCons (eTup (lCons (eBin gAdd (eV 10) (eTup (lCons (eBin gSub (eV 6) (eV 12)) lNil))) (lCons (eBin gAdd (eV 11) (eLst (lCons (eBin gSub (eV 7) (eV 12)) lNil))) lNil))) lNil)))
    sNil) sNil)
    sNil))
def b__law_all_2 : Rho → Out :=
  (sCons (sFor [12, 13] (iRange1 (eFn (g1 dLen) (lCons (eV 6) lNil))) (hName 12) b__law_all_1)
    sNil)
def b__law_all_3 : Rho → Out :=
  (sCons (sSet 6 (eCall m__law_ships (lCons (eV 0) (lCons (eV 5) lNil))))
    (sCons (sSet 7 (eLc [14] (iVal (eV 6)) (hName 14) tYesR (eCall m__law_halo (lCons (eV 2) (lCons (eV 14) lNil)))))
    (sCons (sSet 8 (eLc [14] (iVal (eV 6)) (hName 14) tYesR (eCall m__law_cells (lCons (eV 14) lNil))))
    (sCons (sSet 9 (eLst lNil))
    (sCons (sFor [10, 11, 12, 13] (iVal (eV 3)) (hTup 2 (hCons (hName 10) (hCons (hName 11) hNil))) b__law_all_2)
    (sCons (sSet 3 (eM 9))
    sNil))))))
def b__law_all : Rho → Out :=
  (sCons (sSet 3 (eLst (lCons (eTup (lCons (eTup lNil) (lCons (eLst lNil) lNil))) lNil)))
    (sCons (sFor [4, 5, 6, 7, 8, 9, 10, 11, 12, 13, 14] (iEnumA (eV 1)) (hTup 2 (hCons (hName 4) (hCons (hName 5) hNil))) b__law_all_3)
    (sCons (sRet (eLc [10, 11] (iVal (eV 3)) (hTup 2 (hCons (hName 10) (hCons (hName 11) hNil))) tYesR (eV 10)))
    sNil)))
def m__law_all : List PyData → List SO → Rv := runP 15 b__law_all
def q__law_all_1 (a2 : PyData) (t766 : List PyData) (v1518 : OV) (v1528 : OV) (v1536 : OV) (t1781 : List PyData) (x2101 : PyData) (s2100 : OV) : O (OV) :=
  O.bind (O.of (R.bind (R.bind (R.ok (.sh (nd t766 0))) fun e2178 => R.bind (R.ok (.sh (.int 0))) fun e2179 => ofOR (gEq false e2178 e2179)) fun e2194 => orR e2194 (R.bind (R.bind (R.bind (R.ok (.sh a2)) fun e2182 => R.bind (R.bind (R.ok (.sh (nd t766 0))) fun e2180 => R.bind (R.ok (.sh (.int 1))) fun e2181 => ofOR (gSubI e2180 e2181)) fun e2183 => ofOR (gSub e2182 e2183)) fun e2184 => R.bind (R.ok (.sh (nd t766 1))) fun e2185 => ofOR (gEq true e2184 e2185)) fun e2193 => orR e2193 (R.bind (R.bind (R.ok (.sh (nd t1781 0))) fun e2187 => R.bind (R.bind (R.ok (.sh (.int 1))) fun e2186 => ofOR ((gI fun i => .int (-i)) e2186)) fun e2188 => ofOR (gSub e2187 e2188)) fun e2191 => R.bind (R.bind (R.ok (.sh (fz v1518))) fun e2189 => R.bind (R.ok (.sh x2101)) fun e2190 => ofOR (gSub e2189 e2190)) fun e2192 => ofOR (gLt e2191 e2192))))) fun (v2195 : OV) => O.bind (O.bind (O.of (R.bind (R.bind (R.ok (.sh (fz v2195))) toBR) fun b2203 => if b2203 = true then (R.bind (R.bind (R.bind (R.ok (.sh (nd t1781 1))) fun e2200 => R.bind (R.bind (R.bind (R.ok (.sh (fz v1536))) fun e2196 => R.bind (R.ok (.sh x2101)) fun e2197 => ofOR (gSub e2196 e2197)) fun e2198 => R.bind (R.ok []) fun l2199 => .ok (e2198 :: l2199)) fun l2201 => .ok (e2200 :: l2201)) fun l2202 => q__law_free (l2202.map fz)) toBR) else .ok false)) fun b2253 => if b2253 = true then O.bind (O.of (R.bind (ownR "list" s2100) fun _ => R.bind (R.bind (R.bind (R.bind (R.bind (R.ok (.sh (nd t1781 0))) fun e2234 => R.bind (R.bind (R.bind (R.bind (R.ok (.sh (fz v1518))) fun e2229 => R.bind (R.ok (.sh x2101)) fun e2230 => ofOR (gSub e2229 e2230)) fun e2231 => R.bind (R.ok []) fun l2232 => .ok (e2231 :: l2232)) fun l2233 => szR l2233.length (.sh (.tuple (l2233.map fz)))) fun e2235 => ofOR (gAdd e2234 e2235)) fun e2245 => R.bind (R.bind (R.bind (R.ok (.sh (nd t1781 1))) fun e2241 => R.bind (R.bind (R.bind (R.bind (R.ok (.sh (fz v1528))) fun e2236 => R.bind (R.ok (.sh x2101)) fun e2237 => ofOR (gSub e2236 e2237)) fun e2238 => R.bind (R.ok []) fun l2239 => .ok (e2238 :: l2239)) fun l2240 => szR l2240.length (.lst l2240)) fun e2242 => ofOR (gAdd e2241 e2242)) fun e2243 => R.bind (R.ok []) fun l2244 => .ok (e2243 :: l2244)) fun l2246 => .ok (e2245 :: l2246)) fun l2247 => szR l2247.length (.sh (.tuple (l2247.map fz)))) fun e2248 => R.bind (R.ok []) fun l2249 => .ok (e2248 :: l2249)) fun l2251 => R.bind (mutR mApp s2100 l2251) fun r2252 => .ok r2252.1)) fun (v2250 : OV) => .next v2250 else .next s2100) fun (s2228 : OV) => .next s2228
theorem okq__law_all_1 {μ : List SO} (a1 : PyData) (a2 : PyData) (a3 : PyData) (t766 : List PyData) (v1518 : OV) (v1528 : OV) (v1536 : OV) (t1781 : List PyData) (x2101 : PyData) (s2100 : OV) : jS μ b__law_all_1 [.ex (.sh a1), .ex (.sh a2), .ex (.sh a3), .no, .ex (.sh (nd t766 0)), .ex (.sh (nd t766 1)), .ex (.sh (fz v1518)), .fr (fz v1528), .fr (fz v1536), .ex s2100, .ex (.sh (nd t1781 0)), .ex (.sh (nd t1781 1)), .ex (.sh x2101), .no, .no] (q__law_all_1 a2 t766 v1518 v1528 v1536 t1781 x2101 s2100) (fun (s2100 : OV) => [.ex (.sh a1), .ex (.sh a2), .ex (.sh a3), .no, .ex (.sh (nd t766 0)), .ex (.sh (nd t766 1)), .ex (.sh (fz v1518)), .fr (fz v1528), .fr (fz v1536), .ex s2100, .ex (.sh (nd t1781 0)), .ex (.sh (nd t1781 1)), .no, .no, .no]) := by
  unfold q__law_all_1 b__law_all_1
  exact (js_seq (st1 := fun (v2195 : OV) => [.ex (.sh a1), .ex (.sh a2), .ex (.sh a3), .no, .ex (.sh (nd t766 0)), .ex (.sh (nd t766 1)), .ex (.sh (fz v1518)), .fr (fz v1528), .fr (fz v1536), .ex s2100, .ex (.sh (nd t1781 0)), .ex (.sh (nd t1781 1)), .ex (.sh x2101), .ex v2195, .no]) (js_set (j_or (j_bin (j_v rfl) j_c) (j_or (j_bin (j_bin (j_v rfl) (j_bin (j_v rfl) j_c)) (j_v rfl)) (j_bin (j_bin (j_v rfl) (j_un j_c)) (j_bin (j_v rfl) (j_v rfl))) .rf) .rf)) fun v2195 => (js_seq (st1 := fun (s2228 : OV) => [.ex (.sh a1), .ex (.sh a2), .ex (.sh a3), .no, .ex (.sh (nd t766 0)), .ex (.sh (nd t766 1)), .ex (.sh (fz v1518)), .fr (fz v1528), .fr (fz v1536), .ex s2228, .ex (.sh (nd t1781 0)), .ex (.sh (nd t1781 1)), .no, .no, .no]) (js_if (j_band (j_test (j_vx rfl)) (j_test (j_call okq__law_free (j_lcons (j_v rfl) (j_lcons (j_bin (j_vf rfl) (j_v rfl)) j_lnil)))) .rf) (js_seq (st1 := fun (v2250 : OV) => [.ex (.sh a1), .ex (.sh a2), .ex (.sh a3), .no, .ex (.sh (nd t766 0)), .ex (.sh (nd t766 1)), .ex (.sh (fz v1518)), .fr (fz v1528), .fr (fz v1536), .ex v2250, .ex (.sh (nd t1781 0)), .ex (.sh (nd t1781 1)), .ex (.sh x2101), .ex (.sh (fz v2195)), .no]) (js_mut rfl (j_lcons (j_tup (j_lcons (j_bin (j_v rfl) (j_tup (j_lcons (j_bin (j_v rfl) (j_v rfl)) j_lnil))) (j_lcons (j_bin (j_v rfl) (j_lst (j_lcons (j_bin (j_vf rfl) (j_v rfl)) j_lnil))) j_lnil))) j_lnil) rfl) fun v2250 => (js_nil (by exact (.eq (.eq (.eq (.eq (.eq (.eq (.eq (.eq (.eq (.eq (.eq (.eq (.no (.no (.eq .nil)))))))))))))))))) (js_nil (by exact (.eq (.eq (.eq (.eq (.eq (.eq (.eq (.eq (.eq (.eq (.eq (.eq (.no (.no (.eq .nil)))))))))))))))))) fun s2228 => (js_nil .rf)))
def q__law_all_2 (a2 : PyData) (t766 : List PyData) (v1518 : OV) (v1528 : OV) (v1536 : OV) (t1781 : List PyData) (x1780 : PyData) (s1779 : OV) : O (OV) :=
  O.bind (O.bind (O.of (R.bind (R.bind (R.bind (R.ok (.sh (fz v1518))) fun e2019 => R.bind (R.ok []) fun l2020 => .ok (e2019 :: l2020)) fun l2021 => ofOR ((g1 dLen) l2021)) rng1R)) fun z2254 => forO z2254 (fun x2101 s2100 => q__law_all_1 a2 t766 v1518 v1528 v1536 t1781 x2101 s2100) s1779) fun (s2255 : OV) => .next s2255
theorem okq__law_all_2 {μ : List SO} (a1 : PyData) (a2 : PyData) (a3 : PyData) (t766 : List PyData) (v1518 : OV) (v1528 : OV) (v1536 : OV) (t1781 : List PyData) (x1780 : PyData) (s1779 : OV) : jS μ b__law_all_2 [.ex (.sh a1), .ex (.sh a2), .ex (.sh a3), .no, .ex (.sh (nd t766 0)), .ex (.sh (nd t766 1)), .ex (.sh (fz v1518)), .fr (fz v1528), .fr (fz v1536), .ex s1779, .ex (.sh (nd t1781 0)), .ex (.sh (nd t1781 1)), .no, .no, .no] (q__law_all_2 a2 t766 v1518 v1528 v1536 t1781 x1780 s1779) (fun (s1779 : OV) => [.ex (.sh a1), .ex (.sh a2), .ex (.sh a3), .no, .ex (.sh (nd t766 0)), .ex (.sh (nd t766 1)), .ex (.sh (fz v1518)), .fr (fz v1528), .fr (fz v1536), .ex s1779, .no, .no, .no, .no, .no]) := by
  unfold q__law_all_2 b__law_all_2
  exact (js_seq (st1 := fun (s2255 : OV) => [.ex (.sh a1), .ex (.sh a2), .ex (.sh a3), .no, .ex (.sh (nd t766 0)), .ex (.sh (nd t766 1)), .ex (.sh (fz v1518)), .fr (fz v1528), .fr (fz v1536), .ex s2255, .ex (.sh (nd t1781 0)), .ex (.sh (nd t1781 1)), .no, .no, .no]) (js_forN (st := fun (s2100 : OV) => [.ex (.sh a1), .ex (.sh a2), .ex (.sh a3), .no, .ex (.sh (nd t766 0)), .ex (.sh (nd t766 1)), .ex (.sh (fz v1518)), .fr (fz v1528), .fr (fz v1536), .ex s2100, .ex (.sh (nd t1781 0)), .ex (.sh (nd t1781 1)), .no, .no, .no]) (j_irange1 (j_fn (j_lcons (j_v rfl) j_lnil))) .rf (fun x2101 s2100 => okq__law_all_1 a1 a2 a3 t766 v1518 v1528 v1536 t1781 x2101 s2100) (fun _ => rfl)) fun s2255 => (js_nil (by exact (.eq (.eq (.eq (.eq (.eq (.eq (.eq (.eq (.eq (.eq (.no (.no (.eq (.eq (.eq .nil))))))))))))))))))
def q__law_all_3 (a1 : PyData) (a2 : PyData) (a3 : PyData) (t766 : List PyData) (x765 : PyData) (s764 : OV) : O (OV) :=
  O.bind (O.of (R.bind (R.bind (R.ok (.sh a1)) fun e1515 => R.bind (R.bind (R.ok (.sh (nd t766 1))) fun e1513 => R.bind (R.ok []) fun l1514 => .ok (e1513 :: l1514)) fun l1516 => .ok (e1515 :: l1516)) fun l1517 => q__law_ships (l1517.map fz))) fun (v1518 : OV) => O.bind (O.of (R.bind (R.bind (R.ok (.sh (fz v1518))) itR) fun z1526 => R.bind (lcR (fun x1519 => R.bind (R.bind (R.bind (R.ok (.sh a3)) fun e1522 => R.bind (R.bind (R.ok (.sh x1519)) fun e1520 => R.bind (R.ok []) fun l1521 => .ok (e1520 :: l1521)) fun l1523 => .ok (e1522 :: l1523)) fun l1524 => q__law_halo (l1524.map fz)) fun o1525 => .ok (some o1525)) z1526) fun l1527 => szR l1527.length (.lst l1527))) fun (v1528 : OV) => O.bind (O.of (R.bind (R.bind (R.ok (.sh (fz v1518))) itR) fun z1534 => R.bind (lcR (fun x1529 => R.bind (R.bind (R.bind (R.ok (.sh x1529)) fun e1530 => R.bind (R.ok []) fun l1531 => .ok (e1530 :: l1531)) fun l1532 => q__law_cells (l1532.map fz)) fun o1533 => .ok (some o1533)) z1534) fun l1535 => szR l1535.length (.lst l1535))) fun (v1536 : OV) => O.bind (O.of (R.bind (R.ok []) fun l1537 => szR l1537.length (.lst l1537))) fun (v1538 : OV) => O.bind (O.bind (O.of (R.bind (R.ok (.sh (fz s764))) itR)) fun z2256 => forO z2256 (fun x1780 s1779 => O.bind (O.of (unT 2 (fz (.sh x1780)))) fun t1781 => q__law_all_2 a2 t766 v1518 v1528 v1536 t1781 x1780 s1779) v1538) fun (s2257 : OV) => O.bind (O.of (R.ok s2257)) fun (v2258 : OV) => .next v2258
theorem okq__law_all_3 {μ : List SO} (a1 : PyData) (a2 : PyData) (a3 : PyData) (t766 : List PyData) (x765 : PyData) (s764 : OV) : jS μ b__law_all_3 [.ex (.sh a1), .ex (.sh a2), .ex (.sh a3), .ex s764, .ex (.sh (nd t766 0)), .ex (.sh (nd t766 1)), .no, .no, .no, .no, .no, .no, .no, .no, .no] (q__law_all_3 a1 a2 a3 t766 x765 s764) (fun (s764 : OV) => [.ex (.sh a1), .ex (.sh a2), .ex (.sh a3), .ex s764, .no, .no, .no, .no, .no, .no, .no, .no, .no, .no, .no]) := by
  unfold q__law_all_3 b__law_all_3
  exact (js_seq (st1 := fun (v1518 : OV) => [.ex (.sh a1), .ex (.sh a2), .ex (.sh a3), .ex s764, .ex (.sh (nd t766 0)), .ex (.sh (nd t766 1)), .ex v1518, .no, .no, .no, .no, .no, .no, .no, .no]) (js_set (j_call okq__law_ships (j_lcons (j_v rfl) (j_lcons (j_v rfl) j_lnil)))) fun v1518 => (js_seq (st1 := fun (v1528 : OV) => [.ex (.sh a1), .ex (.sh a2), .ex (.sh a3), .ex s764, .ex (.sh (nd t766 0)), .ex (.sh (nd t766 1)), .ex (.sh (fz v1518)), .ex v1528, .no, .no, .no, .no, .no, .no, .no]) (js_set (j_lc (pc := [.ex (.sh a1), .ex (.sh a2), .ex (.sh a3), .ex s764, .ex (.sh (nd t766 0)), .ex (.sh (nd t766 1)), .ex (.sh (fz v1518)), .no, .no, .no, .no, .no, .no, .no, .no]) (j_ival (j_vx rfl)) .rf fun x1519 => (j_turn1N (j_call okq__law_halo (j_lcons (j_v rfl) (j_lcons (j_v rfl) j_lnil))) .rf))) fun v1528 => (js_seq (st1 := fun (v1536 : OV) => [.ex (.sh a1), .ex (.sh a2), .ex (.sh a3), .ex s764, .ex (.sh (nd t766 0)), .ex (.sh (nd t766 1)), .ex (.sh (fz v1518)), .ex v1528, .ex v1536, .no, .no, .no, .no, .no, .no]) (js_set (j_lc (pc := [.ex (.sh a1), .ex (.sh a2), .ex (.sh a3), .ex s764, .ex (.sh (nd t766 0)), .ex (.sh (nd t766 1)), .ex (.sh (fz v1518)), .ex v1528, .no, .no, .no, .no, .no, .no, .no]) (j_ival (j_v rfl)) .rf fun x1529 => (j_turn1N (j_call okq__law_cells (j_lcons (j_v rfl) j_lnil)) .rf))) fun v1536 => (js_seq (st1 := fun (v1538 : OV) => [.ex (.sh a1), .ex (.sh a2), .ex (.sh a3), .ex s764, .ex (.sh (nd t766 0)), .ex (.sh (nd t766 1)), .ex (.sh (fz v1518)), .ex v1528, .ex v1536, .ex v1538, .no, .no, .no, .no, .no]) (js_set (j_lst j_lnil)) fun v1538 => (js_seq (st1 := fun (s2257 : OV) => [.ex (.sh a1), .ex (.sh a2), .ex (.sh a3), .no, .ex (.sh (nd t766 0)), .ex (.sh (nd t766 1)), .ex (.sh (fz v1518)), .fr (fz v1528), .fr (fz v1536), .ex s2257, .no, .no, .no, .no, .no]) (js_for (st := fun (s1779 : OV) => [.ex (.sh a1), .ex (.sh a2), .ex (.sh a3), .no, .ex (.sh (nd t766 0)), .ex (.sh (nd t766 1)), .ex (.sh (fz v1518)), .fr (fz v1528), .fr (fz v1536), .ex s1779, .no, .no, .no, .no, .no]) (pt := fun x1780 s1779 t1781 => [.ex (.sh a1), .ex (.sh a2), .ex (.sh a3), .no, .ex (.sh (nd t766 0)), .ex (.sh (nd t766 1)), .ex (.sh (fz v1518)), .fr (fz v1528), .fr (fz v1536), .ex s1779, .ex (.sh (nd t1781 0)), .ex (.sh (nd t1781 1)), .no, .no, .no]) (j_ival (j_vx rfl)) (by exact (.eq (.eq (.eq (.no (.eq (.eq (.eq (.fr (.fr (.eq (.eq (.eq (.eq (.eq (.eq .nil)))))))))))))))) (fun x1780 s1779 => (jt_tup fun t1781 => (jts_cons (by decide) (jts_cons (by decide) jts_nil)))) (fun x1780 s1779 t1781 => okq__law_all_2 a1 a2 a3 t766 v1518 v1528 v1536 t1781 x1780 s1779) (fun _ => rfl)) fun s2257 => (js_seq (st1 := fun (v2258 : OV) => [.ex (.sh a1), .ex (.sh a2), .ex (.sh a3), .ex v2258, .ex (.sh (nd t766 0)), .ex (.sh (nd t766 1)), .ex (.sh (fz v1518)), .fr (fz v1528), .fr (fz v1536), .un, .no, .no, .no, .no, .no]) (js_set (j_m rfl)) fun v2258 => (js_nil (by exact (.eq (.eq (.eq (.eq (.no (.no (.no (.no (.no (.no (.eq (.eq (.eq (.eq (.eq .nil)))))))))))))))))))))))
def q__law_all_0 (a1 : PyData) (a2 : PyData) (a3 : PyData) : O Unit :=
  O.bind (O.of (R.bind (R.bind (R.bind (R.bind (R.bind (R.ok []) fun l4 => szR l4.length (.sh (.tuple (l4.map fz)))) fun e8 => R.bind (R.bind (R.bind (R.ok []) fun l5 => szR l5.length (.lst l5)) fun e6 => R.bind (R.ok []) fun l7 => .ok (e6 :: l7)) fun l9 => .ok (e8 :: l9)) fun l10 => szR l10.length (.sh (.tuple (l10.map fz)))) fun e11 => R.bind (R.ok []) fun l12 => .ok (e11 :: l12)) fun l13 => szR l13.length (.lst l13))) fun (v14 : OV) => O.bind (O.bind (O.of (R.bind (R.ok (.sh a2)) enR)) fun z2259 => forO z2259 (fun x765 s764 => O.bind (O.of (unT 2 (fz (.sh x765)))) fun t766 => q__law_all_3 a1 a2 a3 t766 x765 s764) v14) fun (s2260 : OV) => O.bind (O.of (R.bind (R.bind (R.ok (.sh (fz s2260))) itR) fun z2264 => R.bind (lcR (fun x2261 => R.bind (unT 2 (fz (.sh x2261))) fun t2262 => R.bind (R.ok (.sh (nd t2262 0))) fun o2263 => .ok (some o2263)) z2264) fun l2265 => szR l2265.length (.lst l2265))) fun o2266 => .ret o2266
theorem okq__law_all_0 {μ : List SO} (a1 : PyData) (a2 : PyData) (a3 : PyData) : jS μ b__law_all [.ex (.sh a1), .ex (.sh a2), .ex (.sh a3), .un, .un, .un, .un, .un, .un, .un, .un, .un, .un, .un, .un] (q__law_all_0 a1 a2 a3) (fun _ : Unit => [.no, .no, .no, .no, .no, .no, .no, .no, .no, .no, .no, .no, .no, .no, .no]) := by
  unfold q__law_all_0 b__law_all
  exact (js_seq (st1 := fun (v14 : OV) => [.ex (.sh a1), .ex (.sh a2), .ex (.sh a3), .ex v14, .un, .un, .un, .un, .un, .un, .un, .un, .un, .un, .un]) (js_set (j_lst (j_lcons (j_tup (j_lcons (j_tup j_lnil) (j_lcons (j_lst j_lnil) j_lnil))) j_lnil))) fun v14 => (js_seq (st1 := fun (s2260 : OV) => [.ex (.sh a1), .ex (.sh a2), .ex (.sh a3), .ex s2260, .no, .no, .no, .no, .no, .no, .no, .no, .no, .no, .no]) (js_for (st := fun (s764 : OV) => [.ex (.sh a1), .ex (.sh a2), .ex (.sh a3), .ex s764, .no, .no, .no, .no, .no, .no, .no, .no, .no, .no, .no]) (pt := fun x765 s764 t766 => [.ex (.sh a1), .ex (.sh a2), .ex (.sh a3), .ex s764, .ex (.sh (nd t766 0)), .ex (.sh (nd t766 1)), .no, .no, .no, .no, .no, .no, .no, .no, .no]) (j_ienum (j_v rfl)) .rf (fun x765 s764 => (jt_tup fun t766 => (jts_cons (by decide) (jts_cons (by decide) jts_nil)))) (fun x765 s764 t766 => okq__law_all_3 a1 a2 a3 t766 x765 s764) (fun _ => rfl)) fun s2260 => (js_retc (j_lc (pc := [.ex (.sh a1), .ex (.sh a2), .ex (.sh a3), .ex (.sh (fz s2260)), .no, .no, .no, .no, .no, .no, .no, .no, .no, .no, .no]) (j_ival (j_vx rfl)) .rf fun x2261 => (j_turn1 (pt := fun t2262 => [.ex (.sh a1), .ex (.sh a2), .ex (.sh a3), .ex (.sh (fz s2260)), .no, .no, .no, .no, .no, .no, .ex (.sh (nd t2262 0)), .ex (.sh (nd t2262 1)), .no, .no, .no]) (jt_tup fun t2262 => (jts_cons (by decide) (jts_cons (by decide) jts_nil))) (fun t2262 => (j_v rfl)) (fun t2262 => .rf))))))
def q__law_all : List PyData → R OV
  | [a1, a2, a3] => O.fin (q__law_all_0 a1 a2 a3)
  | _ => .stk
theorem okq__law_all : jP m__law_all q__law_all := fun ds μ => match ds with
  | [a1, a2, a3] => j_def (qq := q__law_all_0 a1 a2 a3) (okq__law_all_0 a1 a2 a3)
  | [] => trivial
  | [_] => trivial
  | [_, _] => trivial
  | _ :: _ :: _ :: _ :: _ => trivial
def b__law_game : Rho → Out :=
  (sCons (sAsg (hTup 7 (hCons (hName 1) (hCons (hName 2) (hCons (hName 3) (hCons (hName 4) (hCons (hName 5) (hCons (hName 6) (hCons (hName 7) hNil)))))))) (eCall m__law_drawn (lCons (eV 0) (lCons (eLst (lCons (cC (.int 4)) (lCons (cC (.int 4)) (lCons (cC (.int 4)) (lCons (cC (.int 4)) (lCons (cC (.int 4)) (lCons (cC (.int 4)) (lCons (cC (.int 3)) lNil)))))))) lNil))))
    (sCons (sSet 8 (eBin gSub (eLst (lCons (eTup (lCons (eBin gAdd (cC (.int 1)) (eV 2)) (lCons (eBin gAdd (cC (.int 1)) (eV 3)) lNil))) (lCons (eTup (lCons (eBin gAdd (cC (.int 2)) (eMod (eV 2) (cC (.int 3)))) (lCons (eBin gAdd (cC (.int 2)) (eMod (eV 3) (cC (.int 3)))) lNil))) (lCons (eTup (lCons (eBin gAdd (cC (.int 1)) (eMod (eV 2) (cC (.int 3)))) (lCons (eBin gAdd (cC (.int 3)) (eMod (eV 3) (cC (.int 2)))) lNil))) lNil)))) (eFn (gMax min2 minI) (lCons (eV 1) (lCons (cC (.int 2)) lNil)))))
    (sCons (sIf (eTest (eBin (gEq false) (eV 1) (cC (.int 3)))) (sCons (sSet 8 (eTup (lCons (cC (.int 2)) (lCons (eBin gAdd (cC (.int 2)) (eV 3)) lNil))))
    sNil) sNil)
    (sCons (sSet 9 (eBin gSub (eLst (lCons (eTup (lCons (eBin gAdd (cC (.int 1)) (eV 4)) lNil)) (lCons (eTup (lCons (eBin gAdd (cC (.int 1)) (eMod (eV 4) (cC (.int 3)))) (lCons (eBin gAdd (cC (.int 1)) (eMod (eV 5) (cC (.int 3)))) lNil))) (lCons (eTup (lCons (eBin gAdd (cC (.int 1)) (eMod (eV 4) (cC (.int 3)))) (lCons (eBin gAdd (cC (.int 1)) (eMod (eV 5) (cC (.int 2)))) (lCons (eBin gAdd (cC (.int 1)) (eMod (eV 6) (cC (.int 2)))) lNil)))) lNil)))) (eMod (eV 1) (cC (.int 3)))))
    (sCons (sIf (eTest (eBin (gEq false) (eV 1) (cC (.int 3)))) (sCons (sSet 9 (eTup (lCons (eBin gAdd (cC (.int 1)) (eMod (eV 4) (cC (.int 3)))) (lCons (eBin gAdd (cC (.int 1)) (eMod (eV 5) (cC (.int 3)))) (lCons (eBin gAdd (cC (.int 1)) (eMod (eV 6) (cC (.int 2)))) lNil)))))
    sNil) sNil)
    (sCons (sSet 9 (eFn (g1 dTuple) (lCons (eUn (fun o => dRev (fz o)) (eFn (g1 dSorted) (lCons (eV 9) lNil))) lNil)))
    (sCons (sRet (eTup (lCons (eV 8) (lCons (eV 9) (lCons (eBin gSub (eLst (lCons (cC (.str "free")) (lCons (cC (.str "sides")) (lCons (cC (.str "corners")) lNil)))) (eV 7)) lNil)))))
    sNil)))))))
def m__law_game : List PyData → List SO → Rv := runP 10 b__law_game
def q__law_game_0 (a1 : PyData) : O Unit :=
  O.bind (O.of (R.bind (R.bind (R.bind (R.ok (.sh a1)) fun e19 => R.bind (R.bind (R.bind (R.bind (R.ok (.sh (.int 4))) fun e14 => R.bind (R.bind (R.ok (.sh (.int 4))) fun e12 => R.bind (R.bind (R.ok (.sh (.int 4))) fun e10 => R.bind (R.bind (R.ok (.sh (.int 4))) fun e8 => R.bind (R.bind (R.ok (.sh (.int 4))) fun e6 => R.bind (R.bind (R.ok (.sh (.int 4))) fun e4 => R.bind (R.bind (R.ok (.sh (.int 3))) fun e2 => R.bind (R.ok []) fun l3 => .ok (e2 :: l3)) fun l5 => .ok (e4 :: l5)) fun l7 => .ok (e6 :: l7)) fun l9 => .ok (e8 :: l9)) fun l11 => .ok (e10 :: l11)) fun l13 => .ok (e12 :: l13)) fun l15 => .ok (e14 :: l15)) fun l16 => szR l16.length (.lst l16)) fun e17 => R.bind (R.ok []) fun l18 => .ok (e17 :: l18)) fun l20 => .ok (e19 :: l20)) fun l21 => q__law_drawn (l21.map fz)) fun o23 => unT 7 (fz o23))) fun t22 => O.bind (O.of (R.bind (R.bind (R.bind (R.bind (R.bind (R.bind (R.ok (.sh (.int 1))) fun e24 => R.bind (R.ok (.sh (nd t22 1))) fun e25 => ofOR (gAdd e24 e25)) fun e30 => R.bind (R.bind (R.bind (R.ok (.sh (.int 1))) fun e26 => R.bind (R.ok (.sh (nd t22 2))) fun e27 => ofOR (gAdd e26 e27)) fun e28 => R.bind (R.ok []) fun l29 => .ok (e28 :: l29)) fun l31 => .ok (e30 :: l31)) fun l32 => szR l32.length (.sh (.tuple (l32.map fz)))) fun e63 => R.bind (R.bind (R.bind (R.bind (R.bind (R.ok (.sh (.int 2))) fun e35 => R.bind (R.bind (R.ok (.sh (nd t22 1))) fun e33 => R.bind (R.ok (.sh (.int 3))) fun e34 => ofOR (gModI e33 e34)) fun e36 => ofOR (gAdd e35 e36)) fun e43 => R.bind (R.bind (R.bind (R.ok (.sh (.int 2))) fun e39 => R.bind (R.bind (R.ok (.sh (nd t22 2))) fun e37 => R.bind (R.ok (.sh (.int 3))) fun e38 => ofOR (gModI e37 e38)) fun e40 => ofOR (gAdd e39 e40)) fun e41 => R.bind (R.ok []) fun l42 => .ok (e41 :: l42)) fun l44 => .ok (e43 :: l44)) fun l45 => szR l45.length (.sh (.tuple (l45.map fz)))) fun e61 => R.bind (R.bind (R.bind (R.bind (R.bind (R.ok (.sh (.int 1))) fun e48 => R.bind (R.bind (R.ok (.sh (nd t22 1))) fun e46 => R.bind (R.ok (.sh (.int 3))) fun e47 => ofOR (gModI e46 e47)) fun e49 => ofOR (gAdd e48 e49)) fun e56 => R.bind (R.bind (R.bind (R.ok (.sh (.int 3))) fun e52 => R.bind (R.bind (R.ok (.sh (nd t22 2))) fun e50 => R.bind (R.ok (.sh (.int 2))) fun e51 => ofOR (gModI e50 e51)) fun e53 => ofOR (gAdd e52 e53)) fun e54 => R.bind (R.ok []) fun l55 => .ok (e54 :: l55)) fun l57 => .ok (e56 :: l57)) fun l58 => szR l58.length (.sh (.tuple (l58.map fz)))) fun e59 => R.bind (R.ok []) fun l60 => .ok (e59 :: l60)) fun l62 => .ok (e61 :: l62)) fun l64 => .ok (e63 :: l64)) fun l65 => szR l65.length (.lst l65)) fun e71 => R.bind (R.bind (R.bind (R.ok (.sh (nd t22 0))) fun e68 => R.bind (R.bind (R.ok (.sh (.int 2))) fun e66 => R.bind (R.ok []) fun l67 => .ok (e66 :: l67)) fun l69 => .ok (e68 :: l69)) fun l70 => ofOR ((gMax min2 minI) l70)) fun e72 => ofOR (gSub e71 e72))) fun (v73 : OV) => O.bind (O.bind (O.of (R.bind (R.bind (R.ok (.sh (nd t22 0))) fun e74 => R.bind (R.ok (.sh (.int 3))) fun e75 => ofOR (gEq false e74 e75)) toBR)) fun b93 => if b93 = true then O.bind (O.of (R.bind (R.bind (R.ok (.sh (.int 2))) fun e89 => R.bind (R.bind (R.bind (R.ok (.sh (.int 2))) fun e85 => R.bind (R.ok (.sh (nd t22 2))) fun e86 => ofOR (gAdd e85 e86)) fun e87 => R.bind (R.ok []) fun l88 => .ok (e87 :: l88)) fun l90 => .ok (e89 :: l90)) fun l91 => szR l91.length (.sh (.tuple (l91.map fz))))) fun (v92 : OV) => .next v92 else .next v73) fun (s84 : OV) => O.bind (O.of (R.bind (R.bind (R.bind (R.bind (R.bind (R.bind (R.ok (.sh (.int 1))) fun e94 => R.bind (R.ok (.sh (nd t22 3))) fun e95 => ofOR (gAdd e94 e95)) fun e96 => R.bind (R.ok []) fun l97 => .ok (e96 :: l97)) fun l98 => szR l98.length (.sh (.tuple (l98.map fz)))) fun e135 => R.bind (R.bind (R.bind (R.bind (R.bind (R.ok (.sh (.int 1))) fun e101 => R.bind (R.bind (R.ok (.sh (nd t22 3))) fun e99 => R.bind (R.ok (.sh (.int 3))) fun e100 => ofOR (gModI e99 e100)) fun e102 => ofOR (gAdd e101 e102)) fun e109 => R.bind (R.bind (R.bind (R.ok (.sh (.int 1))) fun e105 => R.bind (R.bind (R.ok (.sh (nd t22 4))) fun e103 => R.bind (R.ok (.sh (.int 3))) fun e104 => ofOR (gModI e103 e104)) fun e106 => ofOR (gAdd e105 e106)) fun e107 => R.bind (R.ok []) fun l108 => .ok (e107 :: l108)) fun l110 => .ok (e109 :: l110)) fun l111 => szR l111.length (.sh (.tuple (l111.map fz)))) fun e133 => R.bind (R.bind (R.bind (R.bind (R.bind (R.ok (.sh (.int 1))) fun e114 => R.bind (R.bind (R.ok (.sh (nd t22 3))) fun e112 => R.bind (R.ok (.sh (.int 3))) fun e113 => ofOR (gModI e112 e113)) fun e115 => ofOR (gAdd e114 e115)) fun e128 => R.bind (R.bind (R.bind (R.ok (.sh (.int 1))) fun e118 => R.bind (R.bind (R.ok (.sh (nd t22 4))) fun e116 => R.bind (R.ok (.sh (.int 2))) fun e117 => ofOR (gModI e116 e117)) fun e119 => ofOR (gAdd e118 e119)) fun e126 => R.bind (R.bind (R.bind (R.ok (.sh (.int 1))) fun e122 => R.bind (R.bind (R.ok (.sh (nd t22 5))) fun e120 => R.bind (R.ok (.sh (.int 2))) fun e121 => ofOR (gModI e120 e121)) fun e123 => ofOR (gAdd e122 e123)) fun e124 => R.bind (R.ok []) fun l125 => .ok (e124 :: l125)) fun l127 => .ok (e126 :: l127)) fun l129 => .ok (e128 :: l129)) fun l130 => szR l130.length (.sh (.tuple (l130.map fz)))) fun e131 => R.bind (R.ok []) fun l132 => .ok (e131 :: l132)) fun l134 => .ok (e133 :: l134)) fun l136 => .ok (e135 :: l136)) fun l137 => szR l137.length (.lst l137)) fun e140 => R.bind (R.bind (R.ok (.sh (nd t22 0))) fun e138 => R.bind (R.ok (.sh (.int 3))) fun e139 => ofOR (gModI e138 e139)) fun e141 => ofOR (gSub e140 e141))) fun (v142 : OV) => O.bind (O.bind (O.of (R.bind (R.bind (R.ok (.sh (nd t22 0))) fun e143 => R.bind (R.ok (.sh (.int 3))) fun e144 => ofOR (gEq false e143 e144)) toBR)) fun b186 => if b186 = true then O.bind (O.of (R.bind (R.bind (R.bind (R.ok (.sh (.int 1))) fun e168 => R.bind (R.bind (R.ok (.sh (nd t22 3))) fun e166 => R.bind (R.ok (.sh (.int 3))) fun e167 => ofOR (gModI e166 e167)) fun e169 => ofOR (gAdd e168 e169)) fun e182 => R.bind (R.bind (R.bind (R.ok (.sh (.int 1))) fun e172 => R.bind (R.bind (R.ok (.sh (nd t22 4))) fun e170 => R.bind (R.ok (.sh (.int 3))) fun e171 => ofOR (gModI e170 e171)) fun e173 => ofOR (gAdd e172 e173)) fun e180 => R.bind (R.bind (R.bind (R.ok (.sh (.int 1))) fun e176 => R.bind (R.bind (R.ok (.sh (nd t22 5))) fun e174 => R.bind (R.ok (.sh (.int 2))) fun e175 => ofOR (gModI e174 e175)) fun e177 => ofOR (gAdd e176 e177)) fun e178 => R.bind (R.ok []) fun l179 => .ok (e178 :: l179)) fun l181 => .ok (e180 :: l181)) fun l183 => .ok (e182 :: l183)) fun l184 => szR l184.length (.sh (.tuple (l184.map fz))))) fun (v185 : OV) => .next v185 else .next v142) fun (s165 : OV) => O.bind (O.of (R.bind (R.bind (R.bind (R.bind (R.bind (R.ok (.sh (fz s165))) fun e187 => R.bind (R.ok []) fun l188 => .ok (e187 :: l188)) fun l189 => ofOR ((g1 dSorted) l189)) fun e190 => ofOR (dRev (fz e190))) fun e191 => R.bind (R.ok []) fun l192 => .ok (e191 :: l192)) fun l193 => ofOR ((g1 dTuple) l193))) fun (v194 : OV) => O.bind (O.of (R.bind (R.bind (R.ok (.sh (fz s84))) fun e208 => R.bind (R.bind (R.ok (.sh (fz v194))) fun e206 => R.bind (R.bind (R.bind (R.bind (R.bind (R.ok (.sh (.str "free"))) fun e199 => R.bind (R.bind (R.ok (.sh (.str "sides"))) fun e197 => R.bind (R.bind (R.ok (.sh (.str "corners"))) fun e195 => R.bind (R.ok []) fun l196 => .ok (e195 :: l196)) fun l198 => .ok (e197 :: l198)) fun l200 => .ok (e199 :: l200)) fun l201 => szR l201.length (.lst l201)) fun e202 => R.bind (R.ok (.sh (nd t22 6))) fun e203 => ofOR (gSub e202 e203)) fun e204 => R.bind (R.ok []) fun l205 => .ok (e204 :: l205)) fun l207 => .ok (e206 :: l207)) fun l209 => .ok (e208 :: l209)) fun l210 => szR l210.length (.sh (.tuple (l210.map fz))))) fun o211 => .ret o211
theorem okq__law_game_0 {μ : List SO} (a1 : PyData) : jS μ b__law_game [.ex (.sh a1), .un, .un, .un, .un, .un, .un, .un, .un, .un] (q__law_game_0 a1) (fun _ : Unit => [.no, .no, .no, .no, .no, .no, .no, .no, .no, .no]) := by
  unfold q__law_game_0 b__law_game
  exact (js_seq (st1 := fun (t22 : List PyData) => [.ex (.sh a1), .ex (.sh (nd t22 0)), .ex (.sh (nd t22 1)), .ex (.sh (nd t22 2)), .ex (.sh (nd t22 3)), .ex (.sh (nd t22 4)), .ex (.sh (nd t22 5)), .ex (.sh (nd t22 6)), .un, .un]) (js_asg (pt := fun _ _ => []) (pt' := fun t22 => [.ex (.sh a1), .ex (.sh (nd t22 0)), .ex (.sh (nd t22 1)), .ex (.sh (nd t22 2)), .ex (.sh (nd t22 3)), .ex (.sh (nd t22 4)), .ex (.sh (nd t22 5)), .ex (.sh (nd t22 6)), .un, .un]) (j_call okq__law_drawn (j_lcons (j_v rfl) (j_lcons (j_lst (j_lcons j_c (j_lcons j_c (j_lcons j_c (j_lcons j_c (j_lcons j_c (j_lcons j_c (j_lcons j_c j_lnil)))))))) j_lnil))) fun _ => (jt_tup fun t22 => (jts_cons (by decide) (jts_cons (by decide) (jts_cons (by decide) (jts_cons (by decide) (jts_cons (by decide) (jts_cons (by decide) (jts_cons (by decide) jts_nil))))))))) fun t22 => (js_seq (st1 := fun (v73 : OV) => [.ex (.sh a1), .ex (.sh (nd t22 0)), .ex (.sh (nd t22 1)), .ex (.sh (nd t22 2)), .ex (.sh (nd t22 3)), .ex (.sh (nd t22 4)), .ex (.sh (nd t22 5)), .ex (.sh (nd t22 6)), .ex v73, .un]) (js_set (j_bin (j_lst (j_lcons (j_tup (j_lcons (j_bin j_c (j_v rfl)) (j_lcons (j_bin j_c (j_v rfl)) j_lnil))) (j_lcons (j_tup (j_lcons (j_bin j_c (j_bin (j_v rfl) j_c)) (j_lcons (j_bin j_c (j_bin (j_v rfl) j_c)) j_lnil))) (j_lcons (j_tup (j_lcons (j_bin j_c (j_bin (j_v rfl) j_c)) (j_lcons (j_bin j_c (j_bin (j_v rfl) j_c)) j_lnil))) j_lnil)))) (j_fn (j_lcons (j_v rfl) (j_lcons j_c j_lnil))))) fun v73 => (js_seq (st1 := fun (s84 : OV) => [.no, .ex (.sh (nd t22 0)), .no, .no, .ex (.sh (nd t22 3)), .ex (.sh (nd t22 4)), .ex (.sh (nd t22 5)), .ex (.sh (nd t22 6)), .ex s84, .no]) (js_if (j_test (j_bin (j_v rfl) j_c)) (js_seq (st1 := fun (v92 : OV) => [.ex (.sh a1), .ex (.sh (nd t22 0)), .ex (.sh (nd t22 1)), .ex (.sh (nd t22 2)), .ex (.sh (nd t22 3)), .ex (.sh (nd t22 4)), .ex (.sh (nd t22 5)), .ex (.sh (nd t22 6)), .ex v92, .un]) (js_set (j_tup (j_lcons j_c (j_lcons (j_bin j_c (j_v rfl)) j_lnil)))) fun v92 => (js_nil (by exact (.no (.eq (.no (.no (.eq (.eq (.eq (.eq (.eq (.no .nil))))))))))))) (js_nil (by exact (.no (.eq (.no (.no (.eq (.eq (.eq (.eq (.eq (.no .nil))))))))))))) fun s84 => (js_seq (st1 := fun (v142 : OV) => [.no, .ex (.sh (nd t22 0)), .no, .no, .ex (.sh (nd t22 3)), .ex (.sh (nd t22 4)), .ex (.sh (nd t22 5)), .ex (.sh (nd t22 6)), .ex s84, .ex v142]) (js_set (j_bin (j_lst (j_lcons (j_tup (j_lcons (j_bin j_c (j_v rfl)) j_lnil)) (j_lcons (j_tup (j_lcons (j_bin j_c (j_bin (j_v rfl) j_c)) (j_lcons (j_bin j_c (j_bin (j_v rfl) j_c)) j_lnil))) (j_lcons (j_tup (j_lcons (j_bin j_c (j_bin (j_v rfl) j_c)) (j_lcons (j_bin j_c (j_bin (j_v rfl) j_c)) (j_lcons (j_bin j_c (j_bin (j_v rfl) j_c)) j_lnil)))) j_lnil)))) (j_bin (j_v rfl) j_c))) fun v142 => (js_seq (st1 := fun (s165 : OV) => [.no, .no, .no, .no, .no, .no, .no, .ex (.sh (nd t22 6)), .ex s84, .ex s165]) (js_if (j_test (j_bin (j_v rfl) j_c)) (js_seq (st1 := fun (v185 : OV) => [.no, .ex (.sh (nd t22 0)), .no, .no, .ex (.sh (nd t22 3)), .ex (.sh (nd t22 4)), .ex (.sh (nd t22 5)), .ex (.sh (nd t22 6)), .ex s84, .ex v185]) (js_set (j_tup (j_lcons (j_bin j_c (j_bin (j_v rfl) j_c)) (j_lcons (j_bin j_c (j_bin (j_v rfl) j_c)) (j_lcons (j_bin j_c (j_bin (j_v rfl) j_c)) j_lnil))))) fun v185 => (js_nil (by exact (.eq (.no (.eq (.eq (.no (.no (.no (.eq (.eq (.eq .nil))))))))))))) (js_nil (by exact (.eq (.no (.eq (.eq (.no (.no (.no (.eq (.eq (.eq .nil))))))))))))) fun s165 => (js_seq (st1 := fun (v194 : OV) => [.no, .no, .no, .no, .no, .no, .no, .ex (.sh (nd t22 6)), .ex s84, .ex v194]) (js_set (j_fn (j_lcons (j_un (j_fn (j_lcons (j_vx rfl) j_lnil))) j_lnil))) fun v194 => (js_retc (j_tup (j_lcons (j_vx rfl) (j_lcons (j_vx rfl) (j_lcons (j_bin (j_lst (j_lcons j_c (j_lcons j_c (j_lcons j_c j_lnil)))) (j_v rfl)) j_lnil)))))))))))
def q__law_game : List PyData → R OV
  | [a1] => O.fin (q__law_game_0 a1)
  | _ => .stk
theorem okq__law_game : jP m__law_game q__law_game := fun ds μ => match ds with
  | [a1] => j_def (qq := q__law_game_0 a1) (okq__law_game_0 a1)
  | [] => trivial
  | _ :: _ :: _ => trivial
def b__law_played : Rho → Out :=
  (sCons (sAsg (hTup 3 (hCons (hName 1) (hCons (hName 2) (hCons (hName 3) hNil)))) (eCall m__law_game (lCons (eV 0) lNil)))
    (sCons (sSet 4 (eCall m__law_all (lCons (eV 1) (lCons (eV 2) (lCons (eV 3) lNil)))))
    (sCons (sIf (eTest (eBin (gEq false) (eV 4) (eLst lNil))) (sCons (sSet 2 (eTup (lCons (cC (.int 1)) lNil)))
    (sCons (sSet 4 (eCall m__law_all (lCons (eV 1) (lCons (eV 2) (lCons (eV 3) lNil)))))
    sNil)) sNil)
    (sCons (sRet (eTup (lCons (eV 1) (lCons (eV 2) (lCons (eV 3) (lCons (eV 4) lNil))))))
    sNil))))
def m__law_played : List PyData → List SO → Rv := runP 5 b__law_played
def q__law_played_0 (a1 : PyData) : O Unit :=
  O.bind (O.of (R.bind (R.bind (R.bind (R.ok (.sh a1)) fun e2 => R.bind (R.ok []) fun l3 => .ok (e2 :: l3)) fun l4 => q__law_game (l4.map fz)) fun o6 => unT 3 (fz o6))) fun t5 => O.bind (O.of (R.bind (R.bind (R.ok (.sh (nd t5 0))) fun e11 => R.bind (R.bind (R.ok (.sh (nd t5 1))) fun e9 => R.bind (R.bind (R.ok (.sh (nd t5 2))) fun e7 => R.bind (R.ok []) fun l8 => .ok (e7 :: l8)) fun l10 => .ok (e9 :: l10)) fun l12 => .ok (e11 :: l12)) fun l13 => q__law_all (l13.map fz))) fun (v14 : OV) => O.bind (O.bind (O.of (R.bind (R.bind (R.ok (.sh (fz v14))) fun e16 => R.bind (R.bind (R.ok []) fun l15 => szR l15.length (.lst l15)) fun e17 => ofOR (gEq false e16 e17)) toBR)) fun b43 => if b43 = true then O.bind (O.of (R.bind (R.bind (R.ok (.sh (.int 1))) fun e31 => R.bind (R.ok []) fun l32 => .ok (e31 :: l32)) fun l33 => szR l33.length (.sh (.tuple (l33.map fz))))) fun (v34 : OV) => O.bind (O.of (R.bind (R.bind (R.ok (.sh (nd t5 0))) fun e39 => R.bind (R.bind (R.ok (.sh (fz v34))) fun e37 => R.bind (R.bind (R.ok (.sh (nd t5 2))) fun e35 => R.bind (R.ok []) fun l36 => .ok (e35 :: l36)) fun l38 => .ok (e37 :: l38)) fun l40 => .ok (e39 :: l40)) fun l41 => q__law_all (l41.map fz))) fun (v42 : OV) => .next ((fz v34), v42) else .next ((nd t5 1), (.sh (fz v14)))) fun s30 => O.bind (O.of (R.bind (R.bind (R.ok (.sh (nd t5 0))) fun e50 => R.bind (R.bind (R.ok (.sh s30.1)) fun e48 => R.bind (R.bind (R.ok (.sh (nd t5 2))) fun e46 => R.bind (R.bind (R.ok (.sh (fz s30.2))) fun e44 => R.bind (R.ok []) fun l45 => .ok (e44 :: l45)) fun l47 => .ok (e46 :: l47)) fun l49 => .ok (e48 :: l49)) fun l51 => .ok (e50 :: l51)) fun l52 => szR l52.length (.sh (.tuple (l52.map fz))))) fun o53 => .ret o53
theorem okq__law_played_0 {μ : List SO} (a1 : PyData) : jS μ b__law_played [.ex (.sh a1), .un, .un, .un, .un] (q__law_played_0 a1) (fun _ : Unit => [.no, .no, .no, .no, .no]) := by
  unfold q__law_played_0 b__law_played
  exact (js_seq (st1 := fun (t5 : List PyData) => [.ex (.sh a1), .ex (.sh (nd t5 0)), .ex (.sh (nd t5 1)), .ex (.sh (nd t5 2)), .un]) (js_asg (pt := fun _ _ => []) (pt' := fun t5 => [.ex (.sh a1), .ex (.sh (nd t5 0)), .ex (.sh (nd t5 1)), .ex (.sh (nd t5 2)), .un]) (j_call okq__law_game (j_lcons (j_v rfl) j_lnil)) fun _ => (jt_tup fun t5 => (jts_cons (by decide) (jts_cons (by decide) (jts_cons (by decide) jts_nil))))) fun t5 => (js_seq (st1 := fun (v14 : OV) => [.ex (.sh a1), .ex (.sh (nd t5 0)), .ex (.sh (nd t5 1)), .ex (.sh (nd t5 2)), .ex v14]) (js_set (j_call okq__law_all (j_lcons (j_v rfl) (j_lcons (j_v rfl) (j_lcons (j_v rfl) j_lnil))))) fun v14 => (js_seq (st1 := fun (s30 : PyData × OV) => [.no, .ex (.sh (nd t5 0)), .ex (.sh s30.1), .ex (.sh (nd t5 2)), .ex s30.2]) (js_if (j_test (j_bin (j_vx rfl) (j_lst j_lnil))) (js_seq (st1 := fun (v34 : OV) => [.ex (.sh a1), .ex (.sh (nd t5 0)), .ex v34, .ex (.sh (nd t5 2)), .ex (.sh (fz v14))]) (js_set (j_tup (j_lcons j_c j_lnil))) fun v34 => (js_seq (st1 := fun (v42 : OV) => [.ex (.sh a1), .ex (.sh (nd t5 0)), .ex (.sh (fz v34)), .ex (.sh (nd t5 2)), .ex v42]) (js_set (j_call okq__law_all (j_lcons (j_v rfl) (j_lcons (j_vx rfl) (j_lcons (j_v rfl) j_lnil))))) fun v42 => (js_nil (by exact (.no (.eq (.eq (.eq (.eq .nil))))))))) (js_nil (by exact (.no (.eq (.eq (.eq (.eq .nil)))))))) fun s30 => (js_retc (j_tup (j_lcons (j_v rfl) (j_lcons (j_v rfl) (j_lcons (j_v rfl) (j_lcons (j_vx rfl) j_lnil)))))))))
def q__law_played : List PyData → R OV
  | [a1] => O.fin (q__law_played_0 a1)
  | _ => .stk
theorem okq__law_played : jP m__law_played q__law_played := fun ds μ => match ds with
  | [a1] => j_def (qq := q__law_played_0 a1) (okq__law_played_0 a1)
  | [] => trivial
  | _ :: _ :: _ => trivial
def q__law_answers_1 (v21 : OV) (x180 : PyData) (x387 : PyData) (s386 : OV × OV) : O (OV × OV) :=
  O.bind (O.bind (O.of (R.bind (R.bind (R.ok (.sh x180)) fun e436 => R.bind (R.bind (R.ok (.sh (fz v21))) fun e434 => R.bind (R.ok (.sh x387)) fun e435 => ofOR (gSub e434 e435)) fun e437 => ofOR (gIn false e436 e437)) toBR)) fun b479 => if b479 = true then O.bind (O.of (R.bind (R.bind (R.bind (R.ok (.sh x387)) fun e459 => ofPR (gSubO s386.1 (fz e459))) fun e460 => R.bind (R.ok (.sh (.int 1))) fun e461 => ofOR (gSubI e460 e461)) fun o463 => R.bind (R.ok (.sh x387)) fun k464 => setR s386.1 k464 o463)) fun (v462 : OV) => O.bind (O.of (R.bind (R.bind (R.bind (R.ok (.sh (.str "hit"))) fun e467 => R.bind (R.bind (R.ok (.sh (.str "sunk"))) fun e465 => R.bind (R.ok []) fun l466 => .ok (e465 :: l466)) fun l468 => .ok (e467 :: l468)) fun l469 => szR l469.length (.lst l469)) fun e476 => R.bind (R.bind (R.bind (R.bind (R.bind (R.ok (.sh x387)) fun e470 => ofPR (gSubO v462 (fz e470))) fun e471 => R.bind (R.ok (.sh (.int 0))) fun e472 => ofOR (gEq false e471 e472)) fun e473 => R.bind (R.ok []) fun l474 => .ok (e473 :: l474)) fun l475 => ofOR ((g1 dInt) l475)) fun e477 => ofOR (gSub e476 e477))) fun (v478 : OV) => .next (v462, v478) else .next (s386.1, s386.2)) fun s458 => .next (s458.1, s458.2)
def q__law_answers_2 (a1 : PyData) (v21 : OV) (x180 : PyData) (s179 : OV × OV) : O (OV × OV) :=
  O.bind (O.of (R.ok (.sh (.str "water")))) fun (v334 : OV) => O.bind (O.bind (O.of (R.bind (R.bind (R.bind (R.ok (.sh a1)) fun e335 => R.bind (R.ok []) fun l336 => .ok (e335 :: l336)) fun l337 => ofOR ((g1 dLen) l337)) rng1R)) fun z480 => forO z480 (fun x387 s386 => q__law_answers_1 v21 x180 x387 s386) (s179.1, v334)) fun s481 => O.bind (O.of (R.bind (ownR "list" s179.2) fun _ => R.bind (R.bind (R.ok (.sh (fz s481.2))) fun e482 => R.bind (R.ok []) fun l483 => .ok (e482 :: l483)) fun l485 => R.bind (mutR mApp s179.2 l485) fun r486 => .ok r486.1)) fun (v484 : OV) => .next (s481.1, v484)
def q__law_answers_0 (a1 : PyData) (a2 : PyData) : O Unit :=
  O.bind (O.of (R.bind (R.bind (R.ok (.sh a1)) itR) fun z11 => R.bind (lcR (fun x3 => R.bind (R.bind (R.bind (R.bind (R.bind (R.ok (.sh x3)) fun e4 => R.bind (R.ok []) fun l5 => .ok (e4 :: l5)) fun l6 => q__law_cells (l6.map fz)) fun e7 => R.bind (R.ok []) fun l8 => .ok (e7 :: l8)) fun l9 => ofOR ((g1 dLen) l9)) fun o10 => .ok (some o10)) z11) fun l12 => szR l12.length (.lst l12))) fun (v13 : OV) => O.bind (O.of (R.bind (R.bind (R.ok (.sh a1)) itR) fun z19 => R.bind (lcR (fun x14 => R.bind (R.bind (R.bind (R.ok (.sh x14)) fun e15 => R.bind (R.ok []) fun l16 => .ok (e15 :: l16)) fun l17 => q__law_cells (l17.map fz)) fun o18 => .ok (some o18)) z19) fun l20 => szR l20.length (.lst l20))) fun (v21 : OV) => O.bind (O.of (R.bind (R.ok []) fun l22 => szR l22.length (.lst l22))) fun (v23 : OV) => O.bind (O.bind (O.of (R.bind (R.ok (.sh a2)) itR)) fun z487 => forO z487 (fun x180 s179 => q__law_answers_2 a1 v21 x180 s179) (v13, v23)) fun s488 => O.bind (O.of (R.ok s488.2)) fun o489 => .ret o489
def q__law_answers : List PyData → R OV
  | [a1, a2] => O.fin (q__law_answers_0 a1 a2)
  | _ => .stk
local macro_rules | `(tactic| decreasing_trivial_pre_omega) => `(tactic| simp only [fz_shL, itR_shL, ownR_shL, dLenP_l, dLenP_t, gIsiP_ll, gIsiP_tt, gIsiP_tl, gIsiP_lt, raiseO_s, raiseKO_s, tryO_next, tryO_ret, tryO_stk, gSubO_eq, orP_some, ↓R.bind_ok, ↓R.bind_exc, ↓R.bind_stk, ↓O.bind_next, ↓O.bind_ret, ↓O.bind_exc, ↓O.bind_stk, R.bind_ok, R.bind_exc, R.bind_stk, O.bind_next, O.bind_ret, O.bind_exc, O.bind_stk, O.of_ok, O.of_exc, O.of_stk, O.fin_next, O.fin_ret, O.fin_exc, ofOR_some, ofPR_some, toBR_b, andR_b, orR_b, chR_b, iR_i, noX_ok, szR_lit, Option.isSome_some, Option.isSome_none, mutR_app, mutR_some, ownR_lst, ownR_dk, ownR_dt, itR_tup, itR_list, itR_lst, unT_l2, unT_l3, unT_l4, unT_l5, unT_l6, unT_l7, unL_l2, unL_l3, unL_l4, unL_l5, unL_l6, unL_l7, nd0, nd1, nd2, nd3, nd4, nd5, nd6, par2R_ok, gAdd_int, gII_ok, gI_int, gOrd_int, gEq_int, fz_sh, fz_lst, gNot_b, g1, g1_one, gi_int_none, gi_int_bool, gi_int_int, gi_int_str, gi_int_list, gi_int_tuple, gi_bool_none, gi_bool_bool, gi_bool_int, gi_bool_str, gi_bool_list, gi_bool_tuple, gi_str_none, gi_str_bool, gi_str_int, gi_str_str, gi_str_list, gi_str_tuple, gi_list_none, gi_list_bool, gi_list_int, gi_list_str, gi_list_list, gi_list_tuple, gi_tuple_none, gi_tuple_bool, gi_tuple_int, gi_tuple_str, gi_tuple_list, gi_tuple_tuple, gMax_two, mApp_ok, ownT_lst, dLen_list, dLen_tup, gSub_list, gSub_tup, gSub_lst, atI_l0, atI_l1, atI_l2, atI_l3, atI_l4, atI_l5, atI_l6, Option.map_some, dInt_b, dInt_i, dAbs_i, List.map_cons, List.map_nil, List.cons_append, List.nil_append, if_true, if_false, Bool.false_eq_true, decide_true, decide_false, Bool.false_xor, Bool.true_xor, decide_eq_true_eq, List.length_cons, List.length_nil, nl0, nl1, nl2, nl3, nl4, nl5, nl6, nl7, nl8, nl9, nl10, nl11, nl12, nl13, nl14, nl15, nl16, nl17, nl18, nl19, nl20, Nat.reduceAdd, Nat.reduceSub, Nat.reduceMul, Int.reduceLT, Int.reduceEq, Int.reduceSub, Int.reduceAdd, Int.reduceNeg, Int.reduceLE, Int.reduceMul, Int.reduceToNat, sz_le, sz_lt, Nat.reduceLeDiff, Nat.reduceLT, Bool.not_true, Bool.not_false, Bool.true_and, Bool.and_true, Bool.false_and, Bool.and_false, Bool.true_or, Bool.or_true, Bool.false_or, Bool.or_false, rite_and, rite_or, rb_and, rb_or, Bool.decide_eq_true, Bool.decide_and, Bool.decide_or, gAdd_LL, gAdd_Ll, gAdd_lL, gAdd_lst, gAdd_TT, map_sh_fz, map_fz_shL, List.length_map, gEq_bool, eq_self, forO_nil, forO_cons, lcR_nil, rng1R_ok, rng2R_ok])
local macro_rules | `(tactic| get_elem_tactic_trivial) => `(tactic| simp only [fz_shL, itR_shL, ownR_shL, dLenP_l, dLenP_t, gIsiP_ll, gIsiP_tt, gIsiP_tl, gIsiP_lt, raiseO_s, raiseKO_s, tryO_next, tryO_ret, tryO_stk, gSubO_eq, orP_some, ↓R.bind_ok, ↓R.bind_exc, ↓R.bind_stk, ↓O.bind_next, ↓O.bind_ret, ↓O.bind_exc, ↓O.bind_stk, R.bind_ok, R.bind_exc, R.bind_stk, O.bind_next, O.bind_ret, O.bind_exc, O.bind_stk, O.of_ok, O.of_exc, O.of_stk, O.fin_next, O.fin_ret, O.fin_exc, ofOR_some, ofPR_some, toBR_b, andR_b, orR_b, chR_b, iR_i, noX_ok, szR_lit, Option.isSome_some, Option.isSome_none, mutR_app, mutR_some, ownR_lst, ownR_dk, ownR_dt, itR_tup, itR_list, itR_lst, unT_l2, unT_l3, unT_l4, unT_l5, unT_l6, unT_l7, unL_l2, unL_l3, unL_l4, unL_l5, unL_l6, unL_l7, nd0, nd1, nd2, nd3, nd4, nd5, nd6, par2R_ok, gAdd_int, gII_ok, gI_int, gOrd_int, gEq_int, fz_sh, fz_lst, gNot_b, g1, g1_one, gi_int_none, gi_int_bool, gi_int_int, gi_int_str, gi_int_list, gi_int_tuple, gi_bool_none, gi_bool_bool, gi_bool_int, gi_bool_str, gi_bool_list, gi_bool_tuple, gi_str_none, gi_str_bool, gi_str_int, gi_str_str, gi_str_list, gi_str_tuple, gi_list_none, gi_list_bool, gi_list_int, gi_list_str, gi_list_list, gi_list_tuple, gi_tuple_none, gi_tuple_bool, gi_tuple_int, gi_tuple_str, gi_tuple_list, gi_tuple_tuple, gMax_two, mApp_ok, ownT_lst, dLen_list, dLen_tup, gSub_list, gSub_tup, gSub_lst, atI_l0, atI_l1, atI_l2, atI_l3, atI_l4, atI_l5, atI_l6, Option.map_some, dInt_b, dInt_i, dAbs_i, List.map_cons, List.map_nil, List.cons_append, List.nil_append, if_true, if_false, Bool.false_eq_true, decide_true, decide_false, Bool.false_xor, Bool.true_xor, decide_eq_true_eq, List.length_cons, List.length_nil, nl0, nl1, nl2, nl3, nl4, nl5, nl6, nl7, nl8, nl9, nl10, nl11, nl12, nl13, nl14, nl15, nl16, nl17, nl18, nl19, nl20, Nat.reduceAdd, Nat.reduceSub, Nat.reduceMul, Int.reduceLT, Int.reduceEq, Int.reduceSub, Int.reduceAdd, Int.reduceNeg, Int.reduceLE, Int.reduceMul, Int.reduceToNat, sz_le, sz_lt, Nat.reduceLeDiff, Nat.reduceLT, Bool.not_true, Bool.not_false, Bool.true_and, Bool.and_true, Bool.false_and, Bool.and_false, Bool.true_or, Bool.or_true, Bool.false_or, Bool.or_false, rite_and, rite_or, rb_and, rb_or, Bool.decide_eq_true, Bool.decide_and, Bool.decide_or, gAdd_LL, gAdd_Ll, gAdd_lL, gAdd_lst, gAdd_TT, map_sh_fz, map_fz_shL, List.length_map, gEq_bool, eq_self, forO_nil, forO_cons, lcR_nil, rng1R_ok, rng2R_ok, *])
structure Ship where
  r : Int
  c : Int
  al : Bool
  n : Nat
deriving DecidableEq
abbrev Cell := Int × Int
def cD (p : Cell) : PyData := .tuple [.int p.1, .int p.2]
def wayS (al : Bool) : Str := if al = true then "along" else "down"
def Ship.d (s : Ship) : PyData := .tuple [.int s.r, .int s.c, .str (wayS s.al), .int s.n]
def Ship.cells (s : Ship) : List Cell := (List.range s.n).map fun k => if s.al = true then (s.r, s.c + (k : Nat)) else (s.r + (k : Nat), s.c)
theorem str_ok (b : Bool) : PyData.strOk (wayS b) = true := by cases b <;> decide +kernel
theorem along_ok : PyData.strOk ("along" : Str) = true := by decide +kernel
theorem down_ok : PyData.strOk ("down" : Str) = true := by decide +kernel
theorem way_along (b : Bool) : decide (wayS b = ("along" : Str)) = b := by cases b <;> decide +kernel
theorem way_down (b : Bool) : decide (wayS b = ("down" : Str)) = !b := by cases b <;> decide +kernel
theorem gEq_along {b : Bool} : gEq false (.sh (.str (wayS b))) (.sh (.str "along")) = some (.sh (.bool b)) := by
  rw [gEq_str (str_ok b) along_ok, way_along, Bool.false_xor]
theorem gEq_down {b : Bool} : gEq false (.sh (.str (wayS b))) (.sh (.str "down")) = some (.sh (.bool (!b))) := by
  rw [gEq_str (str_ok b) down_ok, way_down, Bool.false_xor]
theorem len_cells (s : Ship) : s.cells.length = s.n := by simp [Ship.cells]
theorem cells_q {s : Ship} (hn : s.n ≤ 1000) : q_cells_of [s.d] = .ok (shL cD s.cells) := by
  obtain ⟨r, c, al, n⟩ := s
  have hn : n ≤ 1000 := hn
  unfold q_cells_of q_cells_of_0 Ship.d
  decreasing_trivial_pre_omega
  rw [gEq_along]
  decreasing_trivial_pre_omega
  rw [rng1R_n (by omega)]
  decreasing_trivial_pre_omega
  cases al with
  | true =>
    decreasing_trivial_pre_omega
    rw [lcR_map _ fun k : Nat => .sh (cD (r, c + k))]
    · decreasing_trivial_pre_omega
      rw [szR_le (by rw [List.length_range, sizeLine_eq]; omega)]
      decreasing_trivial_pre_omega
      simp [shL, Ship.cells]
    · intro k _; decreasing_trivial_pre_omega; rfl
  | false =>
    decreasing_trivial_pre_omega
    rw [lcR_map _ fun k : Nat => .sh (cD (r + k, c))]
    · decreasing_trivial_pre_omega
      rw [szR_le (by rw [List.length_range, sizeLine_eq]; omega)]
      decreasing_trivial_pre_omega
      simp [shL, Ship.cells]
    · intro k _; decreasing_trivial_pre_omega; rfl
theorem flat_one {α β : Type} (f : α → β) : ∀ xs : List α, xs.flatMap (fun x => [f x]) = xs.map f
  | [] => rfl
  | x :: xs => by rw [List.flatMap_cons, flat_one f xs]; rfl
theorem gMul_n {i j : Int} (h : -1000 ≤ j ∧ j ≤ 1000) : gMulI (.sh (.int i)) (.sh (.int j)) = some (.sh (.int (i * j))) := gII_ok (mulOk_r ⟨by omega, by omega⟩)
theorem law_cells_q {s : Ship} (hn : s.n ≤ 1000) : q__law_cells [s.d] = .ok (shL cD s.cells) := by
  obtain ⟨r, c, al, n⟩ := s
  have hn : n ≤ 1000 := hn
  unfold q__law_cells q__law_cells_0 Ship.d
  decreasing_trivial_pre_omega
  rw [rng1R_n (by omega)]
  decreasing_trivial_pre_omega
  rw [forO_g0 (fun k : Nat => .int (k : Nat)) cD (fun k : Nat => [if al = true then (r, c + (k : Nat)) else (r + (k : Nat), c)]) 1000]
  · decreasing_trivial_pre_omega
    rw [flat_one]
    rfl
  · rw [flat_one, List.length_map, List.length_range]; exact hn
  · intro k _ a ha
    rw [List.length_singleton] at ha
    unfold q__law_cells_1
    have h0 : ∀ p : Cell, mutR mApp (shL cD a) [.sh (cD p)] = .ok (shL cD (a ++ [p]), .sh .none) := fun p => mutR_some (app_shL (en := cD) (by rw [sizeLine_eq]; omega))
    decreasing_trivial_pre_omega
    rw [gEq_along, gEq_down]
    decreasing_trivial_pre_omega
    cases al with
    | true =>
      (try decreasing_trivial_pre_omega)
      rw [gMul_n (by omega), gMul_n (by omega)]
      decreasing_trivial_pre_omega
      rw [Int.mul_zero, Int.mul_one, Int.add_zero, show (PyData.tuple [.int r, .int (c + (k : Nat))]) = cD (r, c + (k : Nat)) from rfl, h0]
      decreasing_trivial_pre_omega
    | false =>
      (try decreasing_trivial_pre_omega)
      rw [gMul_n (by omega), gMul_n (by omega)]
      decreasing_trivial_pre_omega
      rw [Int.mul_zero, Int.mul_one, Int.add_zero, show (PyData.tuple [.int (r + (k : Nat)), .int c]) = cD (r + (k : Nat), c) from rfl, h0]
      decreasing_trivial_pre_omega
def shipsAt (R C l r c : Nat) : List Ship := (if c + l ≤ C then [⟨r, c, true, l⟩] else []) ++ (if r + l ≤ R ∧ 1 < l then [⟨r, c, false, l⟩] else [])
def ships (R C l : Nat) : List Ship := (List.range R).flatMap fun r => (List.range C).flatMap fun c => shipsAt R C l r c
theorem flat_le {α β : Type} {f : α → List β} {m : Nat} : ∀ xs : List α, (∀ x ∈ xs, (f x).length ≤ m) → (xs.flatMap f).length ≤ xs.length * m
  | [], _ => by simp
  | x :: xs, h => by
    have := flat_le xs fun y hy => h y (List.mem_cons_of_mem _ hy)
    have := h x List.mem_cons_self
    rw [List.flatMap_cons, List.length_append, List.length_cons, Nat.succ_mul]
    omega
theorem shipsAt_len {R C l r c : Nat} : (shipsAt R C l r c).length ≤ 2 := by
  unfold shipsAt
  rw [List.length_append]
  by_cases a : c + l ≤ C <;> by_cases b : r + l ≤ R ∧ 1 < l <;> simp [a, b]
theorem shipsRow_len {R C l r : Nat} : ((List.range C).flatMap fun c => shipsAt R C l r c).length ≤ C * 2 := by
  have := flat_le (f := fun c => shipsAt R C l r c) (List.range C) fun c _ => shipsAt_len
  rwa [List.length_range] at this
theorem ships_len {R C l : Nat} : (ships R C l).length ≤ R * (C * 2) := by
  have := flat_le (f := fun r => (List.range C).flatMap fun c => shipsAt R C l r c) (List.range R) fun r _ => shipsRow_len
  rwa [List.length_range] at this
theorem law_ships_q {R C l : Nat} (hR : R ≤ 100) (hC : C ≤ 100) : q__law_ships [cD (R, C), .int (l : Nat)] = .ok (shL Ship.d (ships R C l)) := by
  have hb : R * (C * 2) ≤ 100 * 200 := Nat.mul_le_mul (by omega) (by omega)
  unfold q__law_ships q__law_ships_0 cD
  decreasing_trivial_pre_omega
  rw [rng1R_n (by omega)]
  decreasing_trivial_pre_omega
  rw [forO_g0 (fun k : Nat => .int (k : Nat)) Ship.d (fun r => (List.range C).flatMap fun c => shipsAt R C l r c) 20000]
  · decreasing_trivial_pre_omega
    rfl
  · exact Nat.le_trans ships_len (by omega)
  · intro r _ a ha
    unfold q__law_ships_2
    decreasing_trivial_pre_omega
    rw [rng1R_n (by omega)]
    decreasing_trivial_pre_omega
    rw [forO_g1 (fun k : Nat => .int (k : Nat)) Ship.d (fun c => shipsAt R C l r c) 20000]
    · decreasing_trivial_pre_omega
    · exact ha
    · intro c _ a ha
      have h2 := shipsAt_len (R := R) (C := C) (l := l) (r := r) (c := c)
      have e1 : ∀ a : List Ship, a.length ≤ 20000 → mApp (shL Ship.d a) [.sh (.tuple [.int (r : Nat), .int (c : Nat), .str "along", .int (l : Nat)])] = some (shL Ship.d (a ++ [⟨r, c, true, l⟩]), .sh .none) := fun a h => app_shL (en := Ship.d) (c := ⟨r, c, true, l⟩) (by rw [sizeLine_eq]; omega)
      have e2 : ∀ a : List Ship, a.length ≤ 20000 → mApp (shL Ship.d a) [.sh (.tuple [.int (r : Nat), .int (c : Nat), .str "down", .int (l : Nat)])] = some (shL Ship.d (a ++ [⟨r, c, false, l⟩]), .sh .none) := fun a h => app_shL (en := Ship.d) (c := ⟨r, c, false, l⟩) (by rw [sizeLine_eq]; omega)
      have c1 : ((c : Nat) : Int) + (l : Nat) ≤ (C : Nat) ↔ c + l ≤ C := by omega
      have c2 : ((r : Nat) : Int) + (l : Nat) ≤ (R : Nat) ↔ r + l ≤ R := by omega
      have c3 : (1 : Int) < (l : Nat) ↔ 1 < l := by omega
      have e3 := mutR_some (e1 a (by omega))
      have e4 := mutR_some (e2 a (by omega))
      unfold q__law_ships_1 shipsAt
      unfold shipsAt at ha
      by_cases a1 : c + l ≤ C
      · have e5 := mutR_some (e2 (a ++ [⟨r, c, true, l⟩]) (by rw [List.length_append]; simp [a1] at ha; simp; omega))
        clear ha hb hR hC h2 e1 e2
        by_cases a2 : r + l ≤ R
        · by_cases a3 : 1 < l
          · get_elem_tactic_trivial; simp
          · get_elem_tactic_trivial; simp
        · get_elem_tactic_trivial; simp
      · clear ha hb hR hC h2 e1 e2
        by_cases a2 : r + l ≤ R
        · by_cases a3 : 1 < l
          · get_elem_tactic_trivial; simp
          · get_elem_tactic_trivial; simp
        · get_elem_tactic_trivial; simp
def wholeB : PyData → Bool
  | .int _ => true
  | _ => false
def sideB : PyData → Bool
  | .int i => decide (1 ≤ i) && decide (i ≤ 8)
  | _ => false
theorem gIsi_sh {T : String} {d : PyData} (h : isDict d = false) : gIsi T [.sh d] = some (.sh (.bool (isiB T d))) := by
  unfold gIsi
  simp only [fz_sh, h, Bool.false_eq_true, if_false]
theorem whole_q {d : PyData} (h : isDict d = false) : q_is_whole [d] = .ok (.sh (.bool (wholeB d))) := by
  unfold q_is_whole q_is_whole_0
  cases d with
  | dict _ => cases h
  | _ => decreasing_trivial_pre_omega; try rfl
theorem side_q {d : PyData} (h : isDict d = false) : q_is_side [d] = .ok (.sh (.bool (sideB d))) := by
  have w := whole_q h
  unfold q_is_side q_is_side_0
  cases d with
  | dict _ => cases h
  | int i =>
    simp only [wholeB] at w
    get_elem_tactic_trivial
    rfl
  | _ => simp only [wholeB] at w; get_elem_tactic_trivial; try rfl
def onB (R C : Int) (p : Cell) : Bool := (decide (0 ≤ p.1) && decide (p.1 < R)) && (decide (0 ≤ p.2) && decide (p.2 < C))
theorem on_q {R C : Int} {p : Cell} : q_is_on [cD (R, C), cD p] = .ok (.sh (.bool (onB R C p))) := by
  unfold q_is_on q_is_on_0 cD onB
  decreasing_trivial_pre_omega
def iOf : PyData → Int
  | .int i => i
  | _ => 0
def Ship.on (R C : Int) (s : Ship) : Bool := s.cells.all (onB R C)
def shipB (R C : Int) : PyData → Bool
  | .tuple [a, b, .str w, l] => (decide (w = ("along" : Str)) || decide (w = ("down" : Str))) && (wholeB a && (wholeB b && (sideB l && (!(decide (iOf l = 1) && decide (w = ("down" : Str))) && Ship.on R C ⟨iOf a, iOf b, decide (w = ("along" : Str)), (iOf l).toNat⟩))))
  | _ => false
theorem whole_int {d : PyData} (h : wholeB d = true) : ∃ i, d = .int i := by cases d <;> first | exact ⟨_, rfl⟩ | cases h
theorem side_int {d : PyData} (h : sideB d = true) : ∃ i, d = .int i ∧ 1 ≤ i ∧ i ≤ 8 := by
  cases d with
  | int i => simp [sideB] at h; exact ⟨i, rfl, h.1, h.2⟩
  | _ => cases h
theorem boolsOf_map {α : Type} (f : α → Bool) : ∀ l : List α, boolsOf (l.map fun x => PyData.bool (f x)) = some (l.map f)
  | [] => rfl
  | x :: l => by simp [boolsOf, boolsOf_map f l]
theorem all_q {α : Type} (f : α → Bool) (l : List α) : dAll (fun bs => bs.all id) (.list (l.map fun x => .bool (f x))) = some (.sh (.bool (l.all f))) := by
  unfold dAll
  simp only [boolsOf_map, Option.map_some, List.all_map, Function.comp_def, id]
theorem in_ways {w : Str} : Ev.gIn true (.sh (.str w)) (.sh (.tuple [.str "along", .str "down"])) = some (.sh (.bool (!(decide (w = ("along" : Str)) || decide (w = ("down" : Str)))))) := by
  have e1 : PyData.eqv (.str ("along" : Str)) (.str w) = decide (w = ("along" : Str)) := by rw [eqv_str]; exact decide_eq_decide.mpr eq_comm
  have e2 : PyData.eqv (.str ("down" : Str)) (.str w) = decide (w = ("down" : Str)) := by rw [eqv_str]; exact decide_eq_decide.mpr eq_comm
  unfold gIn
  simp only [fz_sh, flatD, List.all_cons, List.all_nil, Bool.and_self, and_self, if_true, List.any_cons, List.any_nil, e1, e2, Bool.or_false, Bool.true_xor]
theorem is_ship_no {R C : Int} {d : PyData} (h : isDict d = false) (ht : ∀ xs, d ≠ .tuple xs) : q_is_ship [cD (R, C), d] = .ok (.sh (.bool false)) := by
  unfold q_is_ship q_is_ship_0
  cases d with
  | dict _ => cases h
  | tuple xs => exact absurd rfl (ht xs)
  | _ => decreasing_trivial_pre_omega
theorem is_ship_len {R C : Int} {xs : List PyData} (hl : xs.length ≠ 4) : q_is_ship [cD (R, C), .tuple xs] = .ok (.sh (.bool false)) := by
  have hl' : ¬ ((xs.length : Nat) : Int) = 4 := by omega
  unfold q_is_ship q_is_ship_0
  get_elem_tactic_trivial
theorem shl_bools {α : Type} (f : α → Bool) (l : List α) : fz (.lst (l.map fun x => .sh (.bool (f x)))) = .list (l.map fun x => .bool (f x)) := fz_shL (e := fun x => .bool (f x))
theorem is_ship_s {R C : Int} {s : Ship} (h1 : 1 ≤ s.n) (h8 : s.n ≤ 8) : q_is_ship [cD (R, C), s.d] = .ok (.sh (.bool (!(decide (s.n = 1) && !s.al) && s.on R C))) := by
  have cq := cells_q (s := s) (by omega)
  have wr := whole_q (d := .int s.r) rfl
  have wc := whole_q (d := .int s.c) rfl
  have sl := side_q (d := .int s.n) rfl
  have iw := in_ways (w := wayS s.al)
  have ww : (decide (wayS s.al = ("along" : Str)) || decide (wayS s.al = ("down" : Str))) = true := by rw [way_along, way_down]; cases s.al <;> rfl
  rw [ww] at iw
  simp only [wholeB] at wr wc
  have e1 : sideB (.int s.n) = true := by simp [sideB]; omega
  rw [e1] at sl
  have sz := len_cells s
  have al := all_q (onB R C) s.cells
  have gd := gEq_down (b := s.al)
  have e2 : ((s.n : Nat) : Int) = 1 ↔ s.n = 1 := by omega
  unfold q_is_ship q_is_ship_0
  unfold Ship.d at cq ⊢
  have sz2 : s.cells.length ≤ sizeLine := by rw [sz, sizeLine_eq]; omega
  have fm := map_fz_shL (e := cD) (xs := s.cells)
  have gd' : gEq false (.sh (.int (s.n : Nat))) (.sh (.int 1)) = some (.sh (.bool (decide (s.n = 1)))) := by rw [gEq_int, Bool.false_xor]; exact congrArg _ (congrArg _ (congrArg _ (decide_eq_decide.mpr e2)))
  clear ww e1 e2 sz
  get_elem_tactic_trivial
  by_cases hb : s.n = 1 ∧ s.al = false
  · obtain ⟨h1', h2'⟩ := hb
    simp [h1', h2', O.bind_ret, O.fin_ret, Ev.R.bind_ok, O.of_ok]
  · have hb' : (decide (s.n = 1) && !s.al) = false := by
      cases q : s.al <;> simp [q] at hb ⊢ <;> exact hb
    simp only [hb', Bool.false_eq_true, if_false]
    decreasing_trivial_pre_omega
    rw [lcR_map cD fun p => .sh (.bool (onB R C p))]
    · decreasing_trivial_pre_omega
      rw [szR_le sz2]
      decreasing_trivial_pre_omega
      rw [al]
      decreasing_trivial_pre_omega
      rfl
    · intro p _; (try decreasing_trivial_pre_omega); rw [on_q]; decreasing_trivial_pre_omega
theorem onB_iff {R C : Int} {p : Cell} : onB R C p = true ↔ 0 ≤ p.1 ∧ p.1 < R ∧ 0 ≤ p.2 ∧ p.2 < C := by
  unfold onB
  simp only [Bool.and_eq_true, decide_eq_true_eq, and_assoc]
theorem on_along {R C r c : Int} {n : Nat} (hn : 0 < n) : Ship.on R C ⟨r, c, true, n⟩ = true ↔ 0 ≤ r ∧ r < R ∧ 0 ≤ c ∧ c + n ≤ C := by
  unfold Ship.on Ship.cells
  simp only [if_true, List.all_map, List.all_eq_true, List.mem_range, Function.comp, onB_iff]
  constructor
  · intro h
    have h0 := h 0 hn
    have h1 := h (n - 1) (by omega)
    omega
  · intro h k hk
    omega
theorem on_down {R C r c : Int} {n : Nat} (hn : 0 < n) : Ship.on R C ⟨r, c, false, n⟩ = true ↔ 0 ≤ r ∧ r + n ≤ R ∧ 0 ≤ c ∧ c < C := by
  unfold Ship.on Ship.cells
  simp only [Bool.false_eq_true, if_false, List.all_map, List.all_eq_true, List.mem_range, Function.comp, onB_iff]
  constructor
  · intro h
    have h0 := h 0 hn
    have h1 := h (n - 1) (by omega)
    omega
  · intro h k hk
    omega
def Ship.ok (R C : Int) (s : Ship) : Bool := !(decide (s.n = 1) && !s.al) && s.on R C
inductive Rule | free | sides | corners
deriving DecidableEq
def Rule.s : Rule → Str
  | .free => "free" | .sides => "sides" | .corners => "corners"
def Rule.tog : Rule → Int
  | .free => 0 | .sides => 1 | .corners => 2
def Rule.eith : Rule → Int
  | .free => 0 | .sides => 1 | .corners => 1
abbrev Rule.d (u : Rule) : PyData := .str u.s
theorem rule_ok (u : Rule) : PyData.strOk u.s = true := by cases u <;> decide +kernel
theorem reach_q (u : Rule) : q_reach [u.d] = .ok (.sh (.tuple [.int u.tog, .int u.eith])) := by
  cases u <;> rfl
def ab (i : Int) : Int := if i < 0 then -i else i
def near (u : Rule) (p q : Cell) : Bool := decide (ab (p.1 - q.1) + ab (p.2 - q.2) ≤ u.tog) && decide (max2 (ab (p.1 - q.1)) (ab (p.2 - q.2)) ≤ u.eith)
theorem near_q {u : Rule} {p q : Cell} : q_too_near [u.d, cD p, cD q] = .ok (.sh (.bool (near u p q))) := by
  have h := reach_q u
  unfold q_too_near q_too_near_0 cD
  unfold Rule.d at h ⊢
  get_elem_tactic_trivial
  rfl
def keepB (u : Rule) (s t : Ship) : Bool := s.cells.all fun p => t.cells.all fun q => !near u p q
theorem keep_q {u : Rule} {s t : Ship} (hs : s.n ≤ 1000) (ht : t.n ≤ 1000) : q_keep [u.d, s.d, t.d] = .ok (.sh (.bool (keepB u s t))) := by
  have a := cells_q hs
  have b := cells_q ht
  unfold q_keep q_keep_0
  get_elem_tactic_trivial
  rw [forO_all (o := .sh (.bool false)) cD fun p => t.cells.all fun q => !near u p q]
  · unfold keepB
    cases (s.cells.all fun p => t.cells.all fun q => !near u p q) <;> decreasing_trivial_pre_omega
  · intro p _
    unfold q_keep_2
    get_elem_tactic_trivial
    rw [forO_all (o := .sh (.bool false)) cD fun q => !near u p q]
    · cases (t.cells.all fun q => !near u p q) <;> decreasing_trivial_pre_omega
    · intro q _
      unfold q_keep_1
      decreasing_trivial_pre_omega
      rw [near_q]
      cases near u p q <;> decreasing_trivial_pre_omega
abbrev cK (p : Cell) : List Key := [.inl p.1, .inl p.2]
def dtC (l : List Cell) : OV := .dt (l.map fun p => (cK p, .sh (.bool true)))
def dtD (l : List Cell) : PyData := .dict ((.none, .none) :: l.map fun p => (cD p, .bool true))
theorem fz_dtC (l : List Cell) : fz (dtC l) = dtD l := by
  unfold dtC dtD
  rw [fz, fzt_eq, List.map_map]
  refine congrArg _ (congrArg _ (List.map_congr_left fun p _ => ?_))
  simp only [Function.comp, fz_sh]
  rfl
def insC (l : List Cell) (p : Cell) : List Cell := if p ∈ l then l else l ++ [p]
theorem cK_inj {p q : Cell} (h : cK p = cK q) : p = q := by
  obtain ⟨a, b⟩ := p
  obtain ⟨c, d⟩ := q
  injection h with h1 h2
  injection h2 with h2 _
  injection h1 with h1
  injection h2 with h2
  have h1 : a = c := h1
  have h2 : b = d := h2
  rw [h1, h2]
theorem asDK_cD (p : Cell) : asDK (cD p) = some (.inr (cK p)) := rfl
theorem put_dtC : ∀ (l : List Cell) (p : Cell), putG (l.map fun p => (cK p, OV.sh (.bool true))) (cK p) (.sh (.bool true)) = (insC l p).map fun p => (cK p, OV.sh (.bool true))
  | [], p => by simp [putG, insC]
  | q :: l, p => by
    rw [List.map_cons, putG]
    by_cases e : q = p
    · subst e
      simp [insC]
    · have ne : cK q ≠ cK p := fun h => e (cK_inj h)
      rw [if_neg ne, put_dtC l p]
      unfold insC
      by_cases m : p ∈ l
      · rw [if_pos m, if_pos (List.mem_cons_of_mem _ m)]; rfl
      · rw [if_neg m, if_neg (by simp [m]; exact fun h => e h.symm)]; rfl
theorem set_dtC {l : List Cell} {p : Cell} (h : l.length < sizeLine) : setR (dtC l) (.sh (cD p)) (.sh (.bool true)) = .ok (dtC (insC l p)) := by
  have e : setO (dtC l) (cD p) (.sh (.bool true)) = some (dtC (insC l p)) := by
    unfold setO dtC
    simp only [asDK_cD, List.length_map]
    rw [if_pos ⟨h, rfl⟩, put_dtC]
  unfold setR
  rw [fz_sh, e]
theorem find_dtD : ∀ (l : List Cell) (p : Cell), ((l.map fun p => (cD p, PyData.bool true)).find? fun z => decide (asDK z.1 = some (.inr (cK p)))) = if p ∈ l then some (cD p, .bool true) else none
  | [], _ => rfl
  | q :: l, p => by
    rw [List.map_cons, List.find?_cons]
    by_cases e : q = p
    · subst e
      simp [asDK_cD]
    · have ne : ¬ (asDK (cD q) = some (.inr (cK p))) := fun h => e (cK_inj (by rw [asDK_cD] at h; injection h with h; injection h))
      rw [decide_eq_false ne]
      simp only [find_dtD l p]
      by_cases m : p ∈ l
      · rw [if_pos m, if_pos (List.mem_cons_of_mem _ m)]
      · rw [if_neg m, if_neg (by simp [m]; exact fun h => e h.symm)]
theorem look_dtD (l : List Cell) (p : Cell) : dLook ((.none, .none) :: l.map fun p => (cD p, PyData.bool true)) (cD p) = if p ∈ l then some (.bool true) else none := by
  unfold dLook
  rw [asDK_cD]
  simp only [List.find?_cons]
  have e : decide (asDK PyData.none = some (Sum.inr (cK p))) = false := rfl
  rw [e]
  simp only [find_dtD]
  by_cases m : p ∈ l <;> simp [m]
theorem okK_dtD {l : List (PyData × PyData)} {p : Cell} : okK ((.none, .none) :: l) (cD p) = true := rfl
theorem in_dtD {neg : Bool} {l : List Cell} {p : Cell} : gIn neg (.sh (cD p)) (.sh (dtD l)) = some (.sh (.bool (neg ^^ decide (p ∈ l)))) := by
  unfold gIn dtD
  simp only [fz_sh, okK_dtD, if_true, look_dtD]
  by_cases m : p ∈ l <;> simp [m]
theorem insC_len (l : List Cell) (p : Cell) : (insC l p).length ≤ l.length + 1 := by
  unfold insC
  by_cases m : p ∈ l <;> simp [m]
theorem mem_insC {l : List Cell} {p q : Cell} : q ∈ insC l p ↔ q ∈ l ∨ q = p := by
  unfold insC
  by_cases m : p ∈ l
  · rw [if_pos m]
    exact ⟨.inl, fun h => h.elim id fun e => e ▸ m⟩
  · rw [if_neg m]; simp
def insAll (l m : List Cell) : List Cell := m.foldl insC l
theorem mem_insAll {q : Cell} : ∀ {m l : List Cell}, q ∈ insAll l m ↔ q ∈ l ∨ q ∈ m
  | [], l => by simp [insAll]
  | p :: m, l => by
    show q ∈ insAll (insC l p) m ↔ _
    rw [mem_insAll, mem_insC, List.mem_cons, or_assoc]
theorem insAll_len : ∀ {m l : List Cell}, (insAll l m).length ≤ l.length + m.length
  | [], l => Nat.le_refl _
  | p :: m, l => by
    have a := insAll_len (m := m) (l := insC l p)
    have b := insC_len l p
    show (insAll (insC l p) m).length ≤ _
    rw [List.length_cons]; omega
theorem insAll_app {l m n : List Cell} : insAll l (m ++ n) = insAll (insAll l m) n := by unfold insAll; rw [List.foldl_append]
theorem forO_cells {σ β : Type} {f : PyData → σ → O σ} (e : β → PyData) (st : OV → σ) (g : β → List Cell) (B : Nat) : ∀ (xs : List β) (l : List Cell),
    (∀ x ∈ xs, ∀ a : List Cell, a.length + (g x).length ≤ B → f (e x) (st (dtC a)) = .next (st (dtC (insAll a (g x))))) → l.length + (xs.flatMap g).length ≤ B →
    forO (xs.map e) f (st (dtC l)) = .next (st (dtC (insAll l (xs.flatMap g))))
  | [], l, _, _ => rfl
  | x :: xs, l, h, hB => by
    rw [List.flatMap_cons, List.length_append] at hB
    rw [List.map_cons, forO_cons, h x List.mem_cons_self l (by omega), O.bind_next]
    have c := insAll_len (m := g x) (l := l)
    rw [forO_cells e st g B xs _ (fun y hy => h y (List.mem_cons_of_mem _ hy)) (by omega), List.flatMap_cons, insAll_app]
theorem forO_c1 {β : Type} {f : PyData → OV → O OV} (e : β → PyData) (g : β → List Cell) (B : Nat) (xs : List β) (l : List Cell) (hB : l.length + (xs.flatMap g).length ≤ B)
    (h : ∀ x ∈ xs, ∀ a : List Cell, a.length + (g x).length ≤ B → f (e x) (dtC a) = .next (dtC (insAll a (g x)))) : forO (xs.map e) f (dtC l) = .next (dtC (insAll l (xs.flatMap g))) :=
  forO_cells (σ := OV) e (fun o => o) g B xs l h hB
def Rule.steps : Rule → List Cell
  | .free => [(0, 0)]
  | .sides => [(0, 0), (0, 1), (1, 0), (0, -1), (-1, 0)]
  | .corners => [(0, 0), (0, 1), (1, 0), (0, -1), (-1, 0), (1, 1), (1, -1), (-1, 1), (-1, -1)]
def halo (u : Rule) (s : Ship) : List Cell := insAll [] (s.cells.flatMap fun p => u.steps.map fun z => (p.1 + z.1, p.2 + z.2))
theorem ruleEq {neg : Bool} {u v : Rule} : gEq neg (.sh u.d) (.sh v.d) = some (.sh (.bool (neg ^^ decide (u = v)))) := by
  rw [gEq_str (rule_ok u) (rule_ok v)]
  cases u <;> cases v <;> rfl
theorem halo_q {u : Rule} {s : Ship} (hs : s.n ≤ 1000) : q__law_halo [u.d, s.d] = .ok (dtC (halo u s)) := by
  have c := law_cells_q hs
  have ln := len_cells s
  have main : ∀ v : OV, fz v = .list (u.steps.map cD) → forO (s.cells.map cD) (fun x s_1 => O.bind (O.of (unT 2 x)) fun t => q__law_halo_2 v t x s_1) (.dt []) = .next (dtC (halo u s)) := fun v hv => by
    have h9 : u.steps.length ≤ 9 := by cases u <;> decide
    refine forO_c1 cD (fun p => u.steps.map fun z => (p.1 + z.1, p.2 + z.2)) 9000 s.cells [] ?_ (fun p _ a ha => ?_)
    · have := flat_le (f := fun p : Cell => u.steps.map fun z => (p.1 + z.1, p.2 + z.2)) (m := 9) s.cells fun p _ => by rw [List.length_map]; exact h9
      rw [List.length_nil]; omega
    · rw [List.length_map] at ha
      have hp : unT 2 (cD p) = .ok [.int p.1, .int p.2] := rfl
      have hi : itR (.sh (.list (u.steps.map cD))) = .ok (u.steps.map cD) := itR_list
      unfold q__law_halo_2
      get_elem_tactic_trivial
      rw [forO_c1 cD (fun z => [(p.1 + z.1, p.2 + z.2)]) 9000]
      · rw [flat_one]; decreasing_trivial_pre_omega
      · rw [flat_one, List.length_map]; exact ha
      · intro z _ a ha
        have h2 := set_dtC (l := a) (p := (p.1 + z.1, p.2 + z.2)) (by rw [sizeLine_eq]; simp at ha; omega)
        have hz : unT 2 (cD z) = .ok [.int z.1, .int z.2] := rfl
        unfold q__law_halo_1
        unfold cD at h2
        get_elem_tactic_trivial
        rfl
  have n1 : gEq true (.sh (.str "free")) (.sh (.str "free")) = some (.sh (.bool false)) := ruleEq (u := .free) (v := .free)
  have n2 : gEq true (.sh (.str "sides")) (.sh (.str "free")) = some (.sh (.bool true)) := ruleEq (u := .sides) (v := .free)
  have n3 : gEq true (.sh (.str "corners")) (.sh (.str "free")) = some (.sh (.bool true)) := ruleEq (u := .corners) (v := .free)
  have c1 : gEq false (.sh (.str "free")) (.sh (.str "corners")) = some (.sh (.bool false)) := ruleEq (u := .free) (v := .corners)
  have c2 : gEq false (.sh (.str "sides")) (.sh (.str "corners")) = some (.sh (.bool false)) := ruleEq (u := .sides) (v := .corners)
  have c3 : gEq false (.sh (.str "corners")) (.sh (.str "corners")) = some (.sh (.bool true)) := ruleEq (u := .corners) (v := .corners)
  have mf := map_fz_shL (e := cD) (xs := s.cells)
  unfold q__law_halo q__law_halo_0
  cases u with
  | free =>
    simp only [Rule.d, Rule.s] at c ⊢
    get_elem_tactic_trivial
    rw [main _ (by rw [fz_lst]; rfl)]
    decreasing_trivial_pre_omega
  | sides =>
    simp only [Rule.d, Rule.s] at c ⊢
    get_elem_tactic_trivial
    rw [main _ (by rw [fz_lst]; rfl)]
    decreasing_trivial_pre_omega
  | corners =>
    simp only [Rule.d, Rule.s] at c ⊢
    get_elem_tactic_trivial
    rw [main _ (by rw [fz_lst]; rfl)]
    decreasing_trivial_pre_omega
theorem near_steps (u : Rule) (p q : Cell) : near u p q = true ↔ ∃ z ∈ u.steps, q = (p.1 + z.1, p.2 + z.2) := by
  obtain ⟨a, b⟩ := p
  obtain ⟨c, d⟩ := q
  have e : ∀ x y z w : Int, ((x, y) : Cell) = (z, w) ↔ x = z ∧ y = w := fun x y z w => by simp
  have ml : ∀ i j k : Int, max2 i j ≤ k ↔ i ≤ k ∧ j ≤ k := fun i j k => by
    unfold max2
    by_cases h : j > i
    · rw [if_pos h]; omega
    · rw [if_neg h]; omega
  have ha : ∀ x, (0 ≤ x ∧ ab x = x) ∨ (x < 0 ∧ ab x = -x) := fun x => by
    unfold ab
    by_cases h : x < 0
    · exact .inr ⟨h, if_pos h⟩
    · exact .inl ⟨by omega, if_neg h⟩
  unfold near
  rcases ha (a - c) with ⟨h1, e1⟩ | ⟨h1, e1⟩ <;> rcases ha (b - d) with ⟨h2, e2⟩ | ⟨h2, e2⟩ <;> cases u <;>
    simp only [Rule.steps, Rule.tog, Rule.eith, List.mem_cons, List.not_mem_nil, or_false, exists_eq_or_imp, exists_eq_left] <;> simp only [e, Bool.and_eq_true, decide_eq_true_eq, ml, e1, e2] <;> omega
theorem mem_halo {u : Rule} {s : Ship} {p : Cell} : p ∈ halo u s ↔ ∃ q ∈ s.cells, near u q p = true := by
  unfold halo
  rw [mem_insAll]
  simp only [List.not_mem_nil, false_or, List.mem_flatMap, List.mem_map, near_steps]
  constructor
  · rintro ⟨q, hq, z, hz, e⟩; exact ⟨q, hq, z, hz, e.symm⟩
  · rintro ⟨q, hq, z, hz, e⟩; exact ⟨q, hq, z, hz, e.symm⟩
theorem keepB_halo {u : Rule} {s t : Ship} : keepB u s t = true ↔ ∀ q ∈ t.cells, q ∉ halo u s := by
  unfold keepB
  simp only [List.all_eq_true, mem_halo, Bool.not_eq_true']
  constructor
  · rintro h q hq ⟨p, hp, e⟩
    rw [h p hp q hq] at e; cases e
  · intro h p hp q hq
    cases e : near u p q with
    | false => rfl
    | true => exact absurd ⟨p, hp, e⟩ (h q hq)
theorem ab_comm (a b : Int) : ab (a - b) = ab (b - a) := by
  unfold ab
  by_cases h1 : a - b < 0
  · rw [if_pos h1, if_neg (by omega)]; omega
  · rw [if_neg h1]
    by_cases h2 : b - a < 0
    · rw [if_pos h2]; omega
    · rw [if_neg h2]; omega
theorem near_comm {u : Rule} {p q : Cell} : near u p q = near u q p := by
  unfold near
  rw [ab_comm p.1, ab_comm p.2]
theorem keepB_comm {u : Rule} {s t : Ship} : keepB u s t = keepB u t s := by
  rw [Bool.eq_iff_iff]
  unfold keepB
  simp only [List.all_eq_true]
  exact ⟨fun h q hq p hp => by rw [near_comm]; exact h p hp q hq, fun h q hq p hp => by rw [near_comm]; exact h p hp q hq⟩
structure EqE {α : Type} (e : α → PyData) (n : Nat) : Prop where
  lay : ∀ x, (e x).canLay0 = true
  dep : ∀ x, (e x).depth ≤ n
  eqv : ∀ x y, PyData.eqv (e x) (e y) = true ↔ x = y
theorem canLayAll_of : ∀ {ds : List PyData}, (∀ d ∈ ds, d.canLay0 = true) → PyData.canLayAll0 ds = true
  | [], _ => by simp [PyData.canLayAll0]
  | d :: ds, h => by
    rw [PyData.canLayAll0, h d List.mem_cons_self, canLayAll_of fun x hx => h x (List.mem_cons_of_mem _ hx)]; rfl
theorem depthAll_of {m : Nat} : ∀ {ds : List PyData}, (∀ d ∈ ds, d.depth ≤ m) → PyData.depthAll ds ≤ m
  | [], _ => by simp [PyData.depthAll]
  | d :: ds, h => by
    have a := h d List.mem_cons_self
    have b := depthAll_of (ds := ds) fun x hx => h x (List.mem_cons_of_mem _ hx)
    rw [PyData.depthAll]
    omega
section
variable {α β : Type} {e : α → PyData} {f : β → PyData} {n m : Nat}
theorem EqE.all (h : EqE e n) : ∀ xs ys : List α, PyData.eqvAll (xs.map e) (ys.map e) = true ↔ xs = ys
  | [], [] => by simp [PyData.eqvAll]
  | [], _ :: _ => by simp [PyData.eqvAll]
  | _ :: _, [] => by simp [PyData.eqvAll]
  | x :: xs, y :: ys => by simp [PyData.eqvAll, h.eqv, h.all xs ys]
theorem EqE.list (h : EqE e n) : EqE (fun xs : List α => .list (xs.map e)) (n + 1) where
  lay xs := by rw [PyData.canLay0]; exact canLayAll_of fun d hd => by obtain ⟨x, _, rfl⟩ := List.mem_map.mp hd; exact h.lay x
  dep xs := by
    have := depthAll_of (m := n) (ds := xs.map e) fun d hd => by obtain ⟨x, _, rfl⟩ := List.mem_map.mp hd; exact h.dep x
    rw [PyData.depth]; omega
  eqv xs ys := by rw [PyData.eqv]; exact h.all xs ys
theorem EqE.tup (h : EqE e n) : EqE (fun xs : List α => .tuple (xs.map e)) (n + 1) where
  lay xs := by rw [PyData.canLay0]; exact canLayAll_of fun d hd => by obtain ⟨x, _, rfl⟩ := List.mem_map.mp hd; exact h.lay x
  dep xs := by
    have := depthAll_of (m := n) (ds := xs.map e) fun d hd => by obtain ⟨x, _, rfl⟩ := List.mem_map.mp hd; exact h.dep x
    rw [PyData.depth]; omega
  eqv xs ys := by rw [PyData.eqv]; exact h.all xs ys
theorem EqE.pair (h : EqE e n) (k : EqE f m) : EqE (fun p : α × β => .tuple [e p.1, f p.2]) (max n m + 1) where
  lay p := by simp [PyData.canLay0, PyData.canLayAll0, h.lay, k.lay]
  dep p := by
    have := h.dep p.1
    have := k.dep p.2
    simp only [PyData.depth, PyData.depthAll]; omega
  eqv p q := by
    obtain ⟨a, b⟩ := p
    obtain ⟨c, d⟩ := q
    simp [PyData.eqv, PyData.eqvAll, h.eqv, k.eqv]
theorem EqE.shaped (h : EqE e n) (hn : n ≤ 64) (x : α) : SeqAt.shaped (e x) = true := by
  unfold SeqAt.shaped
  rw [h.lay x, decide_eq_true (Nat.le_trans (h.dep x) hn)]; rfl
theorem EqE.eq [DecidableEq α] (h : EqE e n) (hn : n ≤ 64) {neg : Bool} {a b : OV} {x y : α} (ha : fz a = e x) (hb : fz b = e y) : gEq neg a b = some (.sh (.bool (neg ^^ decide (x = y)))) := by
  unfold gEq
  rw [ha, hb, h.shaped hn, h.shaped hn, if_pos ⟨rfl, rfl⟩]
  have : PyData.eqv (e x) (e y) = decide (x = y) := by rw [Bool.eq_iff_iff, h.eqv, decide_eq_true_eq]
  rw [this]
theorem EqE.eqND [DecidableEq α] (h : EqE e n) (hn : n ≤ 63) {neg : Bool} {xs : List α} : gEq neg (.sh (.list (xs.map e))) (.lst []) = some (.sh (.bool (neg ^^ xs.isEmpty))) := by
  rw [h.list.eq (x := xs) (y := []) (by omega) fz_sh (by rw [fz_lst]; rfl)]
  cases xs <;> rfl
theorem EqE.inL [DecidableEq α] (h : EqE e n) (hn : n ≤ 63) {neg : Bool} {x : α} {xs : List α} {a b : OV} (ha : fz a = e x) (hb : fz b = .list (xs.map e)) : Ev.gIn neg a b = some (.sh (.bool (neg ^^ decide (x ∈ xs)))) := by
  unfold Ev.gIn
  rw [ha, hb]
  simp only []
  rw [h.shaped (by omega), h.list.shaped (by omega) xs, if_pos ⟨rfl, rfl⟩]
  have : ((xs.map e).any fun z => PyData.eqv z (e x)) = decide (x ∈ xs) := by
    rw [Bool.eq_iff_iff, decide_eq_true_eq, List.any_map, List.any_eq_true]
    constructor
    · rintro ⟨y, hy, q⟩; rw [← (h.eqv y x).mp q]; exact hy
    · intro hx; exact ⟨x, hx, (h.eqv x x).mpr rfl⟩
  rw [this]
end
theorem EqE.int : EqE PyData.int 0 := ⟨fun _ => by simp [PyData.canLay0], fun _ => by simp [PyData.depth], fun x y => by rw [eqv_int, decide_eq_true_eq]⟩
theorem EqE.bool : EqE PyData.bool 0 := ⟨fun _ => by simp [PyData.canLay0], fun _ => by simp [PyData.depth], fun x y => by simp [PyData.eqv]⟩
theorem EqE.cell : EqE cD 1 := by
  have := EqE.pair EqE.int EqE.int
  exact this
theorem EqE.ship : EqE Ship.d 1 where
  lay s := by simp [Ship.d, PyData.canLay0, PyData.canLayAll0, str_ok]
  dep s := by simp [Ship.d, PyData.depth, PyData.depthAll]
  eqv s t := by
    obtain ⟨a, b, c, d⟩ := s
    obtain ⟨a', b', c', d'⟩ := t
    have w : (wayS c == wayS c') = true ↔ c = c' := by cases c <;> cases c' <;> decide +kernel
    simp only [Ship.d, PyData.eqv, PyData.eqvAll, Bool.and_eq_true, beq_iff_eq, Bool.and_true, Ship.mk.injEq]
    rw [← beq_iff_eq (a := wayS c), w]
    constructor
    · rintro ⟨h1, h2, h3, h4⟩; exact ⟨h1, h2, h3, by omega⟩
    · rintro ⟨h1, h2, h3, h4⟩; exact ⟨h1, h2, h3, by omega⟩
def Ship.lt (s t : Ship) : Bool := decide (s.r < t.r) || (decide (s.r = t.r) && (decide (s.c < t.c) || (decide (s.c = t.c) && ((s.al && !t.al) || (decide (s.al = t.al) && decide (s.n < t.n))))))
theorem way_lt (a b : Bool) : PySem.W.dataLt (.str (wayS a)) (.str (wayS b)) = (a && !b) := by
  rw [PySem.W.dataLt_str]
  cases a <;> cases b <;> decide +kernel
theorem ship_lt (s t : Ship) : PySem.W.dataLt s.d t.d = s.lt t := by
  obtain ⟨a, b, c, d⟩ := s
  obtain ⟨a', b', c', d'⟩ := t
  have w : PyData.eqv (.str (wayS c)) (.str (wayS c')) = decide (c = c') := by rw [eqv_str]; cases c <;> cases c' <;> decide +kernel
  unfold Ship.d Ship.lt
  rw [PySem.W.dataLt_tuple, PySem.W.dataLt_cons (by rfl), PySem.W.dataLt_cons (by rfl), PySem.W.dataLt_cons (by rfl), PySem.W.dataLt_cons (by rfl), PySem.W.dataLt_int, PySem.W.dataLt_int, PySem.W.dataLt_int, way_lt, eqv_int, eqv_int, eqv_int, w]
  have e : PyProof.Rows.lexLt PyProof.Rows.itemOrd (PySem.W.keyToksAll []) (PySem.W.keyToksAll []) = false := by decide +kernel
  rw [e]
  by_cases h1 : a = a'
  · subst h1
    by_cases h2 : b = b'
    · subst h2
      by_cases h3 : c = c'
      · subst h3
        by_cases h4 : (d : Int) = d'
        · have : d = d' := by omega
          subst this
          simp
        · have h5 : ((d : Int) < d') ↔ d < d' := by omega
          simp [h4, h5]
      · simp [h3]
    · simp [h2]
  · simp [h1]
theorem leD_eq (d e : PyData) : leD d e = !PySem.W.dataLt e d := rfl
section
variable {α : Type} {e : α → PyData} {n : Nat}
theorem sort_ok (h : EqE e n) (hn : n ≤ 60) {xs : List α} (al : ∀ x ∈ xs, ∀ y ∈ xs, PySem.W.alike (e x) (e y) = true) (tb : (∀ x, tupB (e x) = true) ∨ ∀ x, offB (e x) = true) (hl : xs.length ≤ sizeLine) : sortOk (xs.map e) = true := by
  unfold sortOk
  simp only [Bool.and_eq_true, decide_eq_true_eq, List.length_map, List.all_map, List.all_eq_true, Function.comp, Bool.or_eq_true]
  refine ⟨⟨⟨fun x hx y hy => al x hx y hy, ?_⟩, fun x _ => ⟨h.shaped (by omega) x, Nat.le_trans (h.dep x) hn⟩⟩, hl⟩
  rcases tb with tb | tb
  · exact .inl fun x _ => tb x
  · exact .inr fun x _ => tb x
end
theorem ship_alike (s t : Ship) : PySem.W.alike s.d t.d = true := rfl
theorem mem_shipsAt {R C l r c : Nat} {s : Ship} (h : s ∈ shipsAt R C l r c) : s.r = r ∧ s.c = c ∧ s.n = l := by
  unfold shipsAt at h
  rcases List.mem_append.mp h with h | h
  · by_cases a : c + l ≤ C
    · rw [if_pos a] at h; rw [List.mem_singleton.mp h]; exact ⟨rfl, rfl, rfl⟩
    · rw [if_neg a] at h; cases h
  · by_cases a : r + l ≤ R ∧ 1 < l
    · rw [if_pos a] at h; rw [List.mem_singleton.mp h]; exact ⟨rfl, rfl, rfl⟩
    · rw [if_neg a] at h; cases h
theorem mem_shipsN {R C l : Nat} {s : Ship} (h : s ∈ ships R C l) : s.n = l := by
  unfold ships at h
  simp only [List.mem_flatMap] at h
  obtain ⟨r, _, c, _, h⟩ := h
  exact (mem_shipsAt h).2.2
theorem pair_range (n : Nat) : (List.range n).Pairwise fun a b => a < b := List.pairwise_lt_range
theorem ships_lt (R C l : Nat) : (ships R C l).Pairwise fun s t => s.lt t = true := by
  unfold ships
  rw [List.pairwise_flatMap]
  refine ⟨fun r _ => ?_, (pair_range R).imp fun {a b} h x hx y hy => ?_⟩
  · rw [List.pairwise_flatMap]
    refine ⟨fun c _ => ?_, (pair_range C).imp fun {a b} h x hx y hy => ?_⟩
    · unfold shipsAt
      by_cases a : c + l ≤ C <;> by_cases b : r + l ≤ R ∧ 1 < l <;> simp [a, b, Ship.lt]
    · obtain ⟨h1, h2, h3⟩ := mem_shipsAt hx
      obtain ⟨g1, g2, g3⟩ := mem_shipsAt hy
      unfold Ship.lt
      rw [h1, h2, g1, g2]
      have : ((a : Nat) : Int) < (b : Nat) := by omega
      simp [this]
  · simp only [List.mem_flatMap] at hx hy
    obtain ⟨c, _, hx⟩ := hx
    obtain ⟨d, _, hy⟩ := hy
    have h1 := (mem_shipsAt hx).1
    have g1 := (mem_shipsAt hy).1
    unfold Ship.lt
    rw [h1, g1]
    have : ((a : Nat) : Int) < (b : Nat) := by omega
    simp [this]
theorem lt_asymm {s t : Ship} (h : s.lt t = true) : t.lt s = false := by
  obtain ⟨a, b, c, d⟩ := s
  obtain ⟨a', b', c', d'⟩ := t
  unfold Ship.lt at h ⊢
  cases c <;> cases c' <;> simp at h ⊢ <;> omega
set_option exponentiation.threshold 2000 in
theorem stir_q {cell k : Int} (h0 : 0 ≤ k) (h1 : k < 2 ^ 20) : q__law_stir [.int cell, .int k] = .ok (.sh (.int (stir cell k))) := by
  have p10 : powOk 10 60 = true := by decide +kernel
  have b0 : 0 ≤ stirN cell k ∧ stirN cell k < 170141183460469231731687303715884105727 := by unfold stirN; omega
  have c0 : 0 ≤ cell % 10 ^ 60 ∧ cell % 10 ^ 60 < 10 ^ 60 := by omega
  have m1 : mulOk (cell % 10 ^ 60 + 7919 * k + 1) 27182818284590452353602874713527 = true := mulOk_n (n := 210) (m := 110) (by omega) (by decide) (by decide) (by decide) (by decide)
  have p5 : powOk (stirN cell k) 5 = true := powOk_n (n := 127) (k := 5) (by omega) (by decide)
  have p3 : powOk ((stirN cell k) ^ 5 + 48271 * k) 3 = true := powOk_n (n := 700) (k := 3) (by
    obtain ⟨n, hn⟩ := Int.eq_ofNat_of_zero_le b0.1
    obtain ⟨j, hj⟩ := Int.eq_ofNat_of_zero_le h0
    rw [hn, hj]
    have e : ((n : Int) ^ 5 + 48271 * (j : Int)) = ((n ^ 5 + 48271 * j : Nat) : Int) := by
      simp
    rw [e, Int.natAbs_natCast]
    have hn2 : n ≤ 2 ^ 127 := by omega
    have h5 : n ^ 5 ≤ (2 ^ 127) ^ 5 := Nat.pow_le_pow_left hn2 5
    have hj2 : j < 2 ^ 20 := by omega
    have e2 : (2 ^ 127) ^ 5 = 2 ^ 635 := by rw [← Nat.pow_mul]
    rw [e2] at h5
    omega) (by decide)
  have d7 : divOk (((stirN cell k) ^ 5 + 48271 * k) ^ 3 % 162259276829213363391578010288127) 7 = true := (by decide +kernel : divOk 0 7 = true)
  have t1 : (60 : Int).toNat = 60 := rfl
  have t2 : (5 : Int).toNat = 5 := rfl
  have t3 : (3 : Int).toNat = 3 := rfl
  have k1 : mulOk 7919 k = true := mulOk_l (by decide)
  have k2 : mulOk 48271 k = true := mulOk_l (by decide)
  have z60 : (0 : Int) < 10 ^ 60 := by decide
  unfold q__law_stir q__law_stir_0
  unfold stirN at p5 p3 d7
  get_elem_tactic_trivial
  rfl
theorem drawn_q (cell : Int) (sizes : List Int) (hs : ∀ s ∈ sizes, 0 < s ∧ s < 2 ^ 62) (hl : sizes.length ≤ 63) : ∃ xs : List Int, q__law_drawn [.int cell, .list (sizes.map .int)] = .ok (shL .int xs) ∧ Drawn xs sizes := by
  have p18 : powOk 10 18 = true := by decide +kernel
  have t18 : (18 : Int).toNat = 18 := rfl
  obtain ⟨s', h1, rest, xs, h2, h3, h4⟩ := forO_inv (f := fun x s => q__law_drawn_1 (.int cell) (.list (sizes.map .int)) x s)
    (fun i s => ∃ (rest : Int) (xs : List Int), s = (shL PyData.int xs, .int rest) ∧ xs.length = i ∧ ∀ (k : Nat) (x s : Int), xs[k]? = some x → sizes[k]? = some s → 0 ≤ x ∧ x < s)
    ((List.range sizes.length).map fun z => .int ((z : Nat) : Int)) 0 (shL PyData.int [], .int cell) ⟨cell, [], rfl, rfl, by simp⟩ (fun k d s hk hp => by
      obtain ⟨rest, xs, rfl, hx, hb⟩ := hp
      rw [List.getElem?_map] at hk
      obtain ⟨m, hm, rfl⟩ := Option.map_eq_some_iff.mp hk
      have hk1 := (List.getElem?_eq_some_iff.mp hm).1
      rw [List.length_range] at hk1
      have : m = k := by
        have := (List.getElem?_eq_some_iff.mp hm).2
        simpa using this.symm
      subst this
      have hx' : xs.length = m := by omega
      have g0 : sizes[m]? = some sizes[m] := List.getElem?_eq_getElem hk1
      have hsk := hs sizes[m] (List.getElem_mem hk1)
      have at1 : atI (sizes.map PyData.int) (m : Nat) = some (.int sizes[m]) := atI_nat (by rw [List.getElem?_map, g0]; rfl)
      have ap : ∀ y : Int, mutR mApp (shL PyData.int xs) [.sh (.int y)] = .ok (shL PyData.int (xs ++ [y]), .sh .none) := fun y => mutR_some (app_shL (en := PyData.int) (by rw [sizeLine_eq]; omega))
      have st := stir_q (cell := cell) (k := (m : Nat)) (by omega) (by omega)
      have key : ∀ y : Int, 0 ≤ y → y < sizes[m] → ∀ (j : Nat) (x s : Int), (xs ++ [y])[j]? = some x → sizes[j]? = some s → 0 ≤ x ∧ x < s := fun y y0 y1 j x s h1 h2 => by
        by_cases e : j < xs.length
        · rw [List.getElem?_append_left e] at h1
          exact hb j x s h1 h2
        · rw [List.getElem?_append_right (by omega)] at h1
          have : j = xs.length := by
            have := (List.getElem?_eq_some_iff.mp h1).1
            simp at this
            omega
          subst this
          simp at h1
          subst h1
          rw [hx', g0] at h2
          cases h2
          exact ⟨y0, y1⟩
      have q0 : 0 < sizes[m] := hsk.1
      by_cases h18 : cell < 10 ^ 18
      · refine ⟨_, ?_, rest, xs ++ [stir cell (m : Nat) % sizes[m]], rfl, by simp; omega, key _ (Int.emod_nonneg _ (by omega)) (Int.emod_lt_of_pos _ hsk.1)⟩
        unfold q__law_drawn_1
        get_elem_tactic_trivial
      · by_cases hr : rest = 0
        · refine ⟨_, ?_, rest, xs ++ [stir cell (m : Nat) % sizes[m]], rfl, by simp; omega, key _ (Int.emod_nonneg _ (by omega)) (Int.emod_lt_of_pos _ hsk.1)⟩
          unfold q__law_drawn_1
          get_elem_tactic_trivial
        · have dv : divOk rest sizes[m] = true := divOk_n (n := 62) hsk.1 (by omega) (by decide) (by decide)
          refine ⟨_, ?_, rest / sizes[m], xs ++ [rest % sizes[m]], rfl, by simp; omega, key _ (Int.emod_nonneg _ (by omega)) (Int.emod_lt_of_pos _ hsk.1)⟩
          unfold q__law_drawn_1
          get_elem_tactic_trivial)
  rw [List.length_map, List.length_range, Nat.zero_add] at h3
  refine ⟨xs, ?_, h3, h4⟩
  unfold q__law_drawn q__law_drawn_0
  decreasing_trivial_pre_omega
  rw [rng1R_n (by omega)]
  decreasing_trivial_pre_omega
  rw [show ((OV.lst [], PyData.int cell) : OV × PyData) = (shL PyData.int [], .int cell) from rfl, h1, h2]
  decreasing_trivial_pre_omega
theorem Drawn.at {xs sizes : List Int} (h : Drawn xs sizes) {k : Nat} {s : Int} (hk : sizes[k]? = some s) : ∃ x, xs[k]? = some x ∧ 0 ≤ x ∧ x < s := by
  have hl := (List.getElem?_eq_some_iff.mp hk).1
  have : k < xs.length := by rw [h.1]; exact hl
  exact ⟨_, List.getElem?_eq_getElem this, h.2 k _ s (List.getElem?_eq_getElem this) hk⟩
theorem script_it (ns : List Int) (n : Int) (h : ns.length ≤ 63) : ∃ ms : List Int, (ofOR (gSl (.sh (.list (ns.map .int))) none (some n))) = .ok (shL PyData.int ms) ∧ gAdd (.lst [.sh (.int 0)]) (shL PyData.int ms) = some (.lst (.sh (.int 0) :: ms.map fun x => .sh (.int x))) ∧ ms.length ≤ 63 := by
  have hl := Nat.le_trans (cutD_len ns none (some n)) h
  refine ⟨cutD ns none (some n), ?_, ?_, hl⟩
  · unfold gSl
    simp only [fz_sh, cutD_map, ofOR_some]
    rw [shL, List.map_map]; rfl
  · rw [gAdd_lst (by simp only [List.length_map, List.length_cons, List.length_nil, sizeLine_eq]; omega)]
    simp [fz_sh]
def Gd (n : Nat) (d : PyData) : Prop := d.canLay0 = true ∧ d.depth ≤ n
theorem Gd.le {n m : Nat} {d : PyData} (h : Gd n d) (l : n ≤ m) : Gd m d := ⟨h.1, Nat.le_trans h.2 l⟩
theorem Gd.shaped {n : Nat} {d : PyData} (h : Gd n d) (l : n ≤ 64) : SeqAt.shaped d = true := by
  unfold SeqAt.shaped
  rw [h.1, decide_eq_true (Nat.le_trans h.2 l)]; rfl
theorem Gd.int (i : Int) : Gd 0 (.int i) := ⟨by simp [PyData.canLay0], by simp [PyData.depth]⟩
theorem Gd.bool (b : Bool) : Gd 0 (.bool b) := ⟨by simp [PyData.canLay0], by simp [PyData.depth]⟩
theorem Gd.none : Gd 0 .none := ⟨by simp [PyData.canLay0], by simp [PyData.depth]⟩
theorem Gd.str {x : Str} (h : PyData.strOk x = true) : Gd 0 (.str x) := ⟨by rw [PyData.canLay0]; exact h, by simp [PyData.depth]⟩
theorem Gd.list {n : Nat} {ds : List PyData} (h : ∀ d ∈ ds, Gd n d) : Gd (n + 1) (.list ds) :=
  ⟨by rw [PyData.canLay0]; exact canLayAll_of fun d hd => (h d hd).1, by
    have := depthAll_of (m := n) fun d hd => (h d hd).2
    rw [PyData.depth]; omega⟩
theorem Gd.tup {n : Nat} {ds : List PyData} (h : ∀ d ∈ ds, Gd n d) : Gd (n + 1) (.tuple ds) :=
  ⟨by rw [PyData.canLay0]; exact canLayAll_of fun d hd => (h d hd).1, by
    have := depthAll_of (m := n) fun d hd => (h d hd).2
    rw [PyData.depth]; omega⟩
theorem Gd.noD {n : Nat} {d : PyData} (h : Gd n d) : isDict d = false := by
  cases d with
  | dict _ => have := h.1; simp [PyData.canLay0] at this
  | _ => rfl
theorem canLayAll_mem : ∀ {ds : List PyData}, PyData.canLayAll0 ds = true → ∀ d ∈ ds, d.canLay0 = true
  | x :: xs, h, d, hd => by
    rw [PyData.canLayAll0, Bool.and_eq_true] at h
    rcases List.mem_cons.mp hd with rfl | hd
    · exact h.1
    · exact canLayAll_mem h.2 d hd
theorem noD_of {d : PyData} (h : d.canLay0 = true) : isDict d = false := by
  cases d with
  | dict _ => simp [PyData.canLay0] at h
  | _ => rfl
theorem shaped_lay {d : PyData} (h : SeqAt.shaped d = true) : d.canLay0 = true := by
  unfold SeqAt.shaped at h
  rw [Bool.and_eq_true] at h
  exact h.1
theorem tup_noD {xs : List PyData} (h : SeqAt.shaped (.tuple xs) = true) : ∀ x ∈ xs, isDict x = false := fun x hx => by
  have := shaped_lay h
  rw [PyData.canLay0] at this
  exact noD_of (canLayAll_mem this x hx)
theorem is_ship4 {R C : Int} {a b w l : PyData} (ha : isDict a = false) (hb : isDict b = false) (hw : isDict w = false) (hl : isDict l = false) : q_is_ship [cD (R, C), .tuple [a, b, w, l]] = .ok (.sh (.bool (shipB R C (.tuple [a, b, w, l])))) := by
  have wa := whole_q ha
  have wb := whole_q hb
  have sl := side_q hl
  have hD : ∀ (r c : Int) (n : Nat) (al : Bool), Ship.d ⟨r, c, al, n⟩ = .tuple [.int r, .int c, .str (wayS al), .int n] := fun _ _ _ _ => rfl
  cases w with
  | dict _ => cases hw
  | str w =>
    have iw := in_ways (w := w)
    cases q : (decide (w = ("along" : Str)) || decide (w = ("down" : Str))) with
    | false => unfold q_is_ship q_is_ship_0 shipB; rw [q] at iw; get_elem_tactic_trivial
    | true =>
      cases qa : wholeB a with
      | false => unfold q_is_ship q_is_ship_0 shipB; rw [q] at iw; rw [qa] at wa; get_elem_tactic_trivial
      | true =>
        cases qb : wholeB b with
        | false => unfold q_is_ship q_is_ship_0 shipB; rw [q] at iw; rw [qa] at wa; rw [qb] at wb; get_elem_tactic_trivial
        | true =>
          cases ql : sideB l with
          | false => unfold q_is_ship q_is_ship_0 shipB; rw [q] at iw; rw [qa] at wa; rw [qb] at wb; rw [ql] at sl; get_elem_tactic_trivial
          | true =>
            obtain ⟨r, rfl⟩ := whole_int qa
            obtain ⟨c, rfl⟩ := whole_int qb
            obtain ⟨n, rfl, n1, n8⟩ := side_int ql
            obtain ⟨k, rfl⟩ := Int.eq_ofNat_of_zero_le (show 0 ≤ n by omega)
            have ew : ∃ al, w = wayS al := by
              by_cases e : w = ("along" : Str)
              · exact ⟨true, e⟩
              · refine ⟨false, ?_⟩
                rw [decide_eq_false e, Bool.false_or, decide_eq_true_eq] at q
                exact q
            obtain ⟨al, rfl⟩ := ew
            have := is_ship_s (R := R) (C := C) (s := ⟨r, c, al, k⟩) (show 1 ≤ k by omega) (show k ≤ 8 by omega)
            rw [hD] at this
            rw [this]
            have es : shipB R C (.tuple [.int r, .int c, .str (wayS al), .int (k : Nat)]) = ((decide (wayS al = ("along" : Str)) || decide (wayS al = ("down" : Str))) && (wholeB (.int r) && (wholeB (.int c) && (sideB (.int (k : Nat)) && (!(decide (((k : Nat) : Int) = 1) && decide (wayS al = ("down" : Str))) && Ship.on R C ⟨r, c, decide (wayS al = ("along" : Str)), ((k : Nat) : Int).toNat⟩))))) := rfl
            rw [es, q, qa, qb, ql, way_along, way_down]
            simp only [Int.toNat_natCast, Bool.true_and]
            have e1 : decide (((k : Nat) : Int) = 1) = decide (k = 1) := by
              by_cases h : k = 1
              · rw [decide_eq_true h, decide_eq_true (by omega)]
              · rw [decide_eq_false h, decide_eq_false (by omega)]
            rw [e1]
  | _ => unfold q_is_ship q_is_ship_0 shipB; decreasing_trivial_pre_omega
theorem is_ship_q {R C : Int} {d : PyData} (h : SeqAt.shaped d = true) : q_is_ship [cD (R, C), d] = .ok (.sh (.bool (shipB R C d))) := by
  have h1 := noD_of (shaped_lay h)
  cases d with
  | tuple xs =>
    have h2 := tup_noD h
    match xs, h2 with
    | [a, b, w, l], h2 => exact is_ship4 (h2 a (by simp)) (h2 b (by simp)) (h2 w (by simp)) (h2 l (by simp))
    | [], _ => exact is_ship_len (xs := []) (by decide)
    | [a], _ => exact is_ship_len (xs := [a]) (by simp)
    | [a, b], _ => exact is_ship_len (xs := [a, b]) (by simp)
    | [a, b, c], _ =>
      rw [is_ship_len (xs := [a, b, c]) (by simp)]
      cases c <;> rfl
    | a :: b :: c :: d :: e :: r, _ =>
      rw [is_ship_len (xs := a :: b :: c :: d :: e :: r) (by simp)]
      cases c <;> rfl
  | dict _ => cases h1
  | _ => exact is_ship_no h1 (fun xs h => by cases h)
theorem ok_along {R C r c : Int} {n : Nat} (hn : 0 < n) : Ship.ok R C ⟨r, c, true, n⟩ = true ↔ 0 ≤ r ∧ r < R ∧ 0 ≤ c ∧ c + n ≤ C := by
  unfold Ship.ok
  rw [Bool.not_true, Bool.and_false, Bool.not_false, Bool.true_and, on_along hn]
theorem ok_down {R C r c : Int} {n : Nat} (hn : 0 < n) : Ship.ok R C ⟨r, c, false, n⟩ = true ↔ 1 < n ∧ 0 ≤ r ∧ r + n ≤ R ∧ 0 ≤ c ∧ c < C := by
  unfold Ship.ok
  rw [Bool.and_eq_true, on_down hn]
  simp
  omega
theorem mem_ships {R C l : Nat} (hl : 1 ≤ l) {s : Ship} : s ∈ ships R C l ↔ s.n = l ∧ s.ok R C = true := by
  obtain ⟨r, c, al, n⟩ := s
  unfold ships shipsAt
  simp only [List.mem_flatMap, List.mem_range, List.mem_append]
  constructor
  · rintro ⟨a, ha, b, hb, h | h⟩
    · by_cases q : b + l ≤ C
      · rw [if_pos q] at h
        have e := List.mem_singleton.mp h
        injection e with e1 e2 e3 e4
        subst e1 e2 e3 e4
        exact ⟨rfl, (ok_along (by omega)).mpr (by omega)⟩
      · rw [if_neg q] at h; cases h
    · by_cases q : a + l ≤ R ∧ 1 < l
      · rw [if_pos q] at h
        have e := List.mem_singleton.mp h
        injection e with e1 e2 e3 e4
        subst e1 e2 e3 e4
        exact ⟨rfl, (ok_down (by omega)).mpr (by omega)⟩
      · rw [if_neg q] at h; cases h
  · rintro ⟨e, h⟩
    have e : n = l := e
    subst e
    cases al with
    | true =>
      have := (ok_along (by omega)).mp h
      refine ⟨r.toNat, by omega, c.toNat, by omega, .inl ?_⟩
      rw [if_pos (by omega), Int.toNat_of_nonneg (by omega), Int.toNat_of_nonneg (by omega)]
      exact List.mem_singleton.mpr rfl
    | false =>
      have := (ok_down (by omega)).mp h
      refine ⟨r.toNat, by omega, c.toNat, by omega, .inr ?_⟩
      rw [if_pos (by omega : r.toNat + n ≤ R ∧ 1 < n), Int.toNat_of_nonneg (by omega), Int.toNat_of_nonneg (by omega)]
      exact List.mem_singleton.mpr rfl
theorem drawn3 {xs : List Int} {a b c : Int} (h : Drawn xs [a, b, c]) : ∃ p q r : Int, xs = [p, q, r] ∧ (0 ≤ p ∧ p < a) ∧ (0 ≤ q ∧ q < b) ∧ (0 ≤ r ∧ r < c) := by
  obtain ⟨hl, hb⟩ := h
  match xs, hl with
  | [p, q, r], _ => exact ⟨p, q, r, rfl, hb 0 _ _ rfl rfl, hb 1 _ _ rfl rfl, hb 2 _ _ rfl rfl⟩
theorem drawn7 {xs : List Int} {a b c d e f g : Int} (h : Drawn xs [a, b, c, d, e, f, g]) : ∃ p q r s t u v : Int, xs = [p, q, r, s, t, u, v] ∧ (0 ≤ p ∧ p < a) ∧ (0 ≤ q ∧ q < b) ∧ (0 ≤ r ∧ r < c) ∧ (0 ≤ s ∧ s < d) ∧ (0 ≤ t ∧ t < e) ∧ (0 ≤ u ∧ u < f) ∧ (0 ≤ v ∧ v < g) := by
  obtain ⟨hl, hb⟩ := h
  match xs, hl with
  | [p, q, r, s, t, u, v], _ => exact ⟨p, q, r, s, t, u, v, rfl, hb 0 _ _ rfl rfl, hb 1 _ _ rfl rfl, hb 2 _ _ rfl rfl, hb 3 _ _ rfl rfl, hb 4 _ _ rfl rfl, hb 5 _ _ rfl rfl, hb 6 _ _ rfl rfl⟩
theorem mod_at {α : Type} {n : Nat} {xs : List α} {i : Int} (hn : xs.length = n) (h0 : 0 < n) : ∃ x ∈ xs, atI xs (i % (n : Nat)) = some x := by
  have h1 := Int.emod_nonneg i (show (n : Int) ≠ 0 by omega)
  have h2 := Int.emod_lt_of_pos i (show (0 : Int) < n by omega)
  obtain ⟨j, hj⟩ := Int.eq_ofNat_of_zero_le h1
  have hlt : j < xs.length := by omega
  refine ⟨xs[j], List.getElem_mem hlt, ?_⟩
  rw [hj]
  exact atI_nat (List.getElem?_eq_getElem hlt)
theorem nat_at {α : Type} {xs : List α} {i : Int} (h0 : 0 ≤ i) (h1 : i < (xs.length : Nat)) : ∃ x ∈ xs, atI xs i = some x := by
  obtain ⟨j, rfl⟩ := Int.eq_ofNat_of_zero_le h0
  have hlt : j < xs.length := by omega
  exact ⟨xs[j], List.getElem_mem hlt, atI_nat (List.getElem?_eq_getElem hlt)⟩
theorem nat_of {i : Int} (h : 0 ≤ i) : ∃ n : Nat, i = (n : Nat) := Int.eq_ofNat_of_zero_le h
def plainD (digit a b : Int) : List PyData := [.int 0, .int (-1), .int 1, .int digit, .int 8, .int 9, .bool true, .bool false, .none, .str "", .str "a1", .str "water", .str "along", .int a, .int (0 - b)]
theorem plain_gd {digit a b : Int} : ∀ d ∈ plainD digit a b, Gd 0 d := by
  unfold plainD
  simp only [List.forall_mem_cons]
  exact ⟨Gd.int _, Gd.int _, Gd.int _, Gd.int _, Gd.int _, Gd.int _, Gd.bool _, Gd.bool _, Gd.none, Gd.str (by decide +kernel), Gd.str (by decide +kernel), Gd.str (by decide +kernel), Gd.str (by decide +kernel), Gd.int _, Gd.int _, fun _ h => by cases h⟩
theorem cut_to {α : Type} (xs : List α) (k : Nat) : Ev.cutD xs none (some (k : Nat)) = xs.take k := by
  unfold Ev.cutD
  rw [show HT.sIx xs.length xs.length (some ((k : Nat) : Int)) = min k xs.length from HT.sIx_nat _ _ k, HT.sIx_none]
  simp
theorem cut_from {α : Type} (xs : List α) (k : Nat) : Ev.cutD xs (some (k : Nat)) none = xs.drop k := by
  unfold Ev.cutD
  rw [show HT.sIx xs.length 0 (some ((k : Nat) : Int)) = min k xs.length from HT.sIx_nat _ _ k, HT.sIx_none]
  by_cases h : k ≤ xs.length
  · rw [Nat.min_eq_left h, List.take_of_length_le (by rw [List.length_drop]; omega)]
  · rw [Nat.min_eq_right (by omega), List.drop_of_length_le (Nat.le_refl _), List.drop_of_length_le (by omega)]
    simp
theorem sl_to {ds : List PyData} {k : Nat} : gSl (.sh (.list ds)) none (some (k : Nat)) = some (.lst ((ds.take k).map .sh)) := by
  unfold gSl
  simp only [fz_sh, cut_to]
theorem sl_from {ds : List PyData} {k : Nat} : gSl (.sh (.list ds)) (some (k : Nat)) none = some (.lst ((ds.drop k).map .sh)) := by
  unfold gSl
  simp only [fz_sh, cut_from]
theorem sl2_to {ds : List PyData} : gSl (.sh (.list ds)) none (some 2) = some (.lst ((ds.take 2).map .sh)) := sl_to (k := 2)
theorem sl2_from {ds : List PyData} : gSl (.sh (.list ds)) (some 2) none = some (.lst ((ds.drop 2).map .sh)) := sl_from (k := 2)
theorem dTuple_l {ds : List PyData} : dTuple (.list ds) = some (.sh (.tuple ds)) := rfl
def NoSh (d : PyData) : Prop := ∀ d0 ds, d = .tuple (d0 :: ds) → Gd 0 d0 ∨ (∃ x y, d0 = .tuple [x, y]) ∨ ∃ l, d0 = .list l
theorem nosh0 {d : PyData} (h : Gd 0 d) : NoSh d := fun d0 ds e => by
  subst e
  have := h.2
  rw [PyData.depth] at this
  omega
theorem nosh_l {ds : List PyData} : NoSh (.list ds) := fun d0 ds e => by cases e
theorem nosh_p {x y : PyData} {ds : List PyData} : NoSh (.tuple (.tuple [x, y] :: ds)) := fun d0 ds e => by cases e; exact .inr (.inl ⟨_, _, rfl⟩)
theorem nosh_tl {l ds : List PyData} : NoSh (.tuple (.list l :: ds)) := fun d0 ds e => by cases e; exact .inr (.inr ⟨_, rfl⟩)
theorem nosh_g {ds : List PyData} (h : ∀ d ∈ ds, Gd 0 d) : NoSh (.tuple ds) := fun d0 ds e => by cases e; exact .inl (h _ List.mem_cons_self)
theorem odd_q2 (cell : Int) : ∃ o, q__law_odd [.int cell] = .ok o ∧ Gd 4 (fz o) ∧ NoSh (fz o) := by
  obtain ⟨xs, hd, hx⟩ := drawn_q cell [19, 40, 7] (by decide) (by decide)
  obtain ⟨way, digit, deep, rfl, h0, h1, h2⟩ := drawn3 hx
  clear hx
  obtain ⟨deep, rfl⟩ := nat_of h2.1
  obtain ⟨a, pa⟩ : ∃ a : Int, gPowI (.sh (.int 10)) (.sh (.int 39)) = some (.sh (.int a)) := ⟨_, gII_ok (by decide +kernel)⟩
  obtain ⟨b, pb⟩ : ∃ a : Int, gPowI (.sh (.int 10)) (.sh (.int 20)) = some (.sh (.int a)) := ⟨_, gII_ok (by decide +kernel)⟩
  simp only [List.map_cons, List.map_nil] at hd
  have gd := plain_gd (digit := digit) (a := a) (b := b)
  unfold q__law_odd q__law_odd_0
  by_cases hw : way < 15
  · obtain ⟨d, hd2, ha⟩ := nat_at (xs := plainD digit a b) h0.1 (by exact hw)
    unfold plainD at ha
    refine ⟨.sh d, ?_, by rw [fz_sh]; exact ⟨(gd d hd2).le (by decide), nosh0 (gd d hd2)⟩⟩
    clear gd hd2 h0 h1 h2
    get_elem_tactic_trivial
  · have hp : ∀ k : Nat, ∃ x, x ∈ plainD digit a b ∧ atI (plainD digit a b) ((digit + (k : Nat) * (k : Nat)) % 15) = some x := fun k => by
      obtain ⟨x, h1, h2⟩ := mod_at (xs := plainD digit a b) (n := 15) (i := digit + (k : Nat) * (k : Nat)) rfl (by decide)
      exact ⟨x, h1, h2⟩
    obtain ⟨f, hf⟩ := Classical.axiomOfChoice hp
    have rg := rng1R_n (k := deep) (by omega)
    have zz := szR_le (n := (List.range deep).length) (x := OV.lst ((List.range deep).map fun k => .sh (f k))) (by rw [List.length_range, sizeLine_eq]; omega)
    have gf : ∀ d ∈ (List.range deep).map f, Gd 0 d := fun d hd => by
      obtain ⟨k, _, rfl⟩ := List.mem_map.mp hd
      exact gd _ (hf k).1
    have mf := map_fz_shL (e := f) (xs := List.range deep)
    have ff : fz (shL f (List.range deep)) = .list ((List.range deep).map f) := fz_shL
    have at2 : ∀ k : Nat, atI [PyData.int 0, .int (-1), .int 1, .int digit, .int 8, .int 9, .bool true, .bool false, .none, .str "", .str "a1", .str "water", .str "along", .int a, .int (0 - b)] ((digit + (k : Nat) * (k : Nat)) % 15) = some (f k) := fun k => (hf k).2
    have mm : ∀ k : Nat, k < deep → gMulI (.sh (.int (k : Nat))) (.sh (.int (k : Nat))) = some (.sh (.int ((k : Nat) * (k : Nat)))) := fun k hk => gII_ok (mulOk_l ⟨by omega, by omega⟩)
    have lc : ∀ g : PyData → Ev.R (Option OV), (∀ k : Nat, k < deep → g (.int (k : Nat)) = .ok (some (.sh (f k)))) → lcR g ((List.range deep).map fun z => .int ((z : Nat) : Int)) = .ok ((List.range deep).map fun k => .sh (f k)) := fun g hg => lcR_map _ (fun k => .sh (f k)) (List.range deep) fun k hk => hg k (List.mem_range.mp hk)
    clear hp gd hf
    have z2 : ∀ l : List PyData, l.length ≤ 10 → szR l.length (OV.lst (l.map .sh)) = .ok (.lst (l.map .sh)) := fun l hl => szR_lit (by omega)
    get_elem_tactic_trivial
    rw [lc]
    · clear lc mm at2
      have hw4 : way = 15 ∨ way = 16 ∨ way = 17 ∨ way = 18 := by omega
      have nlen : ((List.range deep).map f).length = deep := by rw [List.length_map, List.length_range]
      generalize hL : (List.range deep).map f = L at gf mf ff nlen
      have e3 : (3 : Int) < (deep : Nat) ↔ 3 < deep := by omega
      by_cases d3 : 3 < deep
      · match L, nlen with
        | a0 :: b0 :: c0 :: e0 :: l, _ =>
          have t2 := sl2_to (ds := a0 :: b0 :: c0 :: e0 :: l)
          have t3 := sl2_from (ds := a0 :: b0 :: c0 :: e0 :: l)
          simp only [List.take_succ_cons, List.take_zero, List.drop_succ_cons, List.drop_zero] at t2 t3
          have z5 := szR_lit (x := OV.lst [.sh (.tuple [a0, b0]), .lst ((c0 :: e0 :: l).map .sh), .sh a0]) (n := 3) (by decide)
          have gfa := gf a0 (by simp)
          have gfb := gf b0 (by simp)
          have gfl : ∀ d ∈ c0 :: e0 :: l, Gd 0 d := fun d hd => gf d (by simp at hd ⊢; rcases hd with h | h | h <;> simp [h])
          have g1 : Gd 1 (.tuple [a0, b0]) := Gd.tup (by simp only [List.forall_mem_cons]; exact ⟨gfa, gfb, fun _ h => by cases h⟩)
          have g2 : Gd 1 (.list (c0 :: e0 :: l)) := Gd.list gfl
          have g3 : ∀ d ∈ [.tuple [a0, b0], .list (c0 :: e0 :: l), a0], Gd 1 d := by simp only [List.forall_mem_cons]; exact ⟨g1, g2, gfa.le (by decide), fun _ h => by cases h⟩
          generalize c0 :: e0 :: l = M at *
          rcases hw4 with rfl | rfl | rfl | rfl
          · refine ⟨_, by get_elem_tactic_trivial; rfl, ?_⟩
            simp only [fz_sh, fz_lst, fzs_eq, List.map_cons, List.map_nil, map_sh_fz]
            exact ⟨(Gd.tup g3).le (by decide), nosh_p⟩
          · refine ⟨_, by get_elem_tactic_trivial; rfl, ?_⟩
            simp only [fz_sh, fz_lst, fzs_eq, List.map_cons, List.map_nil, map_sh_fz]
            exact ⟨(Gd.list g3).le (by decide), nosh_l⟩
          · refine ⟨_, by get_elem_tactic_trivial; rfl, ?_⟩
            simp only [fz_sh, fz_lst, fzs_eq, List.map_cons, List.map_nil, map_sh_fz]
            exact ⟨(Gd.tup (n := 2) (by simp only [List.forall_mem_cons]; exact ⟨Gd.list g3, Gd.tup g3, fun _ h => by cases h⟩)).le (by decide), nosh_tl⟩
          · have t4 := sl2_to (ds := [.tuple [a0, b0], .list M, a0])
            simp only [List.take_succ_cons, List.take_zero, List.map_cons, List.map_nil] at t4
            refine ⟨_, by get_elem_tactic_trivial; rfl, ?_⟩
            (try simp only [fz_sh, fz_lst, fzs_eq, List.map_cons, List.map_nil, map_sh_fz])
            have g5 : ∀ d ∈ [.tuple [a0, b0], .list M], Gd 1 d := by simp only [List.forall_mem_cons]; exact ⟨g1, g2, fun _ h => by cases h⟩
            exact ⟨(Gd.tup g5).le (by decide), nosh_p⟩
        | [], h => simp at h; omega
        | [_], h => simp at h; omega
        | [_, _], h => simp at h; omega
        | [_, _, _], h => simp at h; omega
      · have gL := gf
        rcases hw4 with rfl | rfl | rfl | rfl
        · refine ⟨_, by get_elem_tactic_trivial; rfl, ?_⟩
          (try simp only [fz_sh, fz_lst, fzs_eq, List.map_cons, List.map_nil, map_sh_fz])
          exact ⟨(Gd.tup gL).le (by decide), nosh_g gL⟩
        · refine ⟨_, by get_elem_tactic_trivial; rfl, ?_⟩
          (try simp only [fz_sh, fz_lst, fzs_eq, List.map_cons, List.map_nil, map_sh_fz])
          exact ⟨(Gd.list gL).le (by decide), nosh_l⟩
        · refine ⟨_, by get_elem_tactic_trivial; rfl, ?_⟩
          (try simp only [fz_sh, fz_lst, fzs_eq, List.map_cons, List.map_nil, map_sh_fz])
          exact ⟨(Gd.tup (n := 1) (by simp only [List.forall_mem_cons]; exact ⟨Gd.list gL, Gd.tup gL, fun _ h => by cases h⟩)).le (by decide), nosh_tl⟩
        · have t2 := sl2_to (ds := L)
          refine ⟨_, by get_elem_tactic_trivial; rfl, ?_⟩
          (try simp only [fz_sh, fz_lst, fzs_eq, List.map_cons, List.map_nil, map_sh_fz])
          exact ⟨(Gd.tup fun d hd => gL d (List.mem_of_mem_take hd)).le (by decide), nosh_g fun d hd => gL d (List.mem_of_mem_take hd)⟩
    · intro k hk
      have := mm k hk
      get_elem_tactic_trivial
abbrev Hid := List Ship
def hD (h : Hid) : PyData := .tuple (h.map Ship.d)
def later (h : Hid) (s : Ship) : Bool := match h.getLast? with
  | none => true
  | some t => decide (t.n ≠ s.n) || t.lt s
def okNext (u : Rule) (h : Hid) (s : Ship) : Bool := later h s && h.all fun t => keepB u t s
def extH (R C : Nat) (u : Rule) (rows : List Hid) (l : Nat) : List Hid := rows.flatMap fun h => ((ships R C l).filter (okNext u h)).map fun s => h ++ [s]
def allH (R C : Nat) (u : Rule) (fleet : List Nat) : List Hid := fleet.foldl (extH R C u) [[]]
theorem extH_len {R C : Nat} {u : Rule} {rows : List Hid} {l : Nat} : (extH R C u rows l).length ≤ rows.length * (R * (C * 2)) := by
  refine flat_le rows fun h _ => ?_
  rw [List.length_map]
  exact Nat.le_trans (List.length_filter_le _ _) ships_len
theorem allH_snoc {R C : Nat} {u : Rule} {fleet : List Nat} {l : Nat} : allH R C u (fleet ++ [l]) = extH R C u (allH R C u fleet) l := by
  unfold allH
  rw [List.foldl_append]; rfl
theorem allH_len {R C : Nat} {u : Rule} (fleet : List Nat) : (allH R C u fleet).length ≤ (R * (C * 2)) ^ fleet.length := by
  suffices h : ∀ n (f : List Nat), f.length = n → (allH R C u f).length ≤ (R * (C * 2)) ^ n from h _ fleet rfl
  intro n
  induction n with
  | zero => intro f hf; have := List.eq_nil_of_length_eq_zero hf; subst this; simp [allH]
  | succ n ih =>
    intro f hf
    have hne : f ≠ [] := fun e => by rw [e] at hf; cases hf
    obtain ⟨g, l, rfl⟩ : ∃ g l, f = g ++ [l] := ⟨f.dropLast, f.getLast hne, (List.dropLast_concat_getLast hne).symm⟩
    rw [List.length_append, List.length_singleton] at hf
    rw [allH_snoc]
    refine Nat.le_trans extH_len ?_
    rw [Nat.pow_succ]
    exact Nat.mul_le_mul_right _ (ih g (by omega))
theorem allH_ns {R C : Nat} {u : Rule} : ∀ (fleet : List Nat) (h : Hid), h ∈ allH R C u fleet → h.map (·.n) = fleet := by
  suffices hs : ∀ n (f : List Nat), f.length = n → ∀ h, h ∈ allH R C u f → h.map (·.n) = f from fun f h hh => hs _ f rfl h hh
  intro n
  induction n with
  | zero => intro f hf h hh; have := List.eq_nil_of_length_eq_zero hf; subst this; simp [allH] at hh; subst hh; rfl
  | succ n ih =>
    intro f hf h hh
    have hne : f ≠ [] := fun e => by rw [e] at hf; cases hf
    obtain ⟨g, l, rfl⟩ : ∃ g l, f = g ++ [l] := ⟨f.dropLast, f.getLast hne, (List.dropLast_concat_getLast hne).symm⟩
    rw [List.length_append, List.length_singleton] at hf
    rw [allH_snoc] at hh
    unfold extH at hh
    simp only [List.mem_flatMap, List.mem_map, List.mem_filter] at hh
    obtain ⟨h0, hh0, s, ⟨hs, _⟩, rfl⟩ := hh
    rw [List.map_append, ih g (by omega) h0 hh0]
    rw [List.map_cons, List.map_nil, mem_shipsN hs]
theorem gLt_ship {s t : Ship} : gLt (.sh s.d) (.sh t.d) = some (.sh (.bool (s.lt t))) := by
  have a1 := EqE.ship.shaped (by decide) s
  have a2 := EqE.ship.shaped (by decide) t
  have e : ∀ (x y : Ship), gLt (.sh x.d) (.sh y.d) = if PySem.W.alike x.d y.d = true ∧ SeqAt.shaped x.d = true ∧ SeqAt.shaped y.d = true then some (.sh (.bool (PySem.W.dataLt x.d y.d))) else none := fun x y => by
    unfold gLt gOrd Ship.d
    simp only [fz_sh]
  rw [e, if_pos ⟨ship_alike s t, a1, a2⟩, ship_lt]
def halD (u : Rule) (h : Hid) : PyData := .list (h.map fun s => dtD (halo u s))
def rowD (u : Rule) (h : Hid) : PyData := .tuple [hD h, halD u h]
theorem free_q {u : Rule} {h : Hid} {s : Ship} : q__law_free [halD u h, .list (s.cells.map cD)] = .ok (.sh (.bool (h.all fun t => keepB u t s))) := by
  have kb : ∀ t : Ship, (s.cells.all fun p => decide (p ∉ halo u t)) = keepB u t s := fun t => by
    rw [Bool.eq_iff_iff, keepB_halo, List.all_eq_true]
    simp
  unfold q__law_free q__law_free_0 halD
  decreasing_trivial_pre_omega
  rw [forO_all (o := .sh (.bool false)) (fun t : Ship => dtD (halo u t)) fun t => keepB u t s]
  · cases (h.all fun t => keepB u t s) <;> decreasing_trivial_pre_omega
  · intro t _
    unfold q__law_free_2
    decreasing_trivial_pre_omega
    rw [forO_all (o := .sh (.bool false)) cD fun p => decide (p ∉ halo u t)]
    · rw [kb]
      cases keepB u t s <;> decreasing_trivial_pre_omega
    · intro p _
      have := in_dtD (neg := false) (l := halo u t) (p := p)
      unfold q__law_free_1
      by_cases hp : p ∈ halo u t <;> get_elem_tactic_trivial <;> simp
theorem atI_last {α : Type} {xs : List α} {x : α} : atI (xs ++ [x]) (-1) = some x := by
  unfold atI ixN
  have : ((xs ++ [x]).length : Int) = xs.length + 1 := by simp
  rw [if_neg (by decide), if_pos (by omega)]
  have e : (-1 + ((xs ++ [x]).length : Int)).toNat = xs.length := by omega
  rw [e]
  simp
abbrev fD (fleet : List Nat) : PyData := .tuple (fleet.map fun n => .int (n : Nat))
def RowOk (fleet : List Nat) (p : Nat) (h : Hid) : Prop := h.map (·.n) = fleet.take p ∧ p < fleet.length
theorem later_q {fleet : List Nat} {p l : Nat} {h : Hid} {s : Ship} (hr : RowOk fleet p h) (hs : s.n = l) :
    (p = 0 → h = [] ∧ later h s = true) ∧ (p ≠ 0 → ∃ t h0 k, h = h0 ++ [t] ∧ atI (fleet.map fun n => PyData.int ((n : Nat) : Int)) ((p : Nat) - 1) = some (.int (k : Nat)) ∧ k = t.n ∧ later h s = (decide (k ≠ l) || t.lt s)) := by
  obtain ⟨e, hp⟩ := hr
  refine ⟨fun h0 => ?_, fun h0 => ?_⟩
  · subst h0
    have : h = [] := by simpa using e
    subst this
    exact ⟨rfl, rfl⟩
  · have hl : h.length = p := by
      have := congrArg List.length e
      rw [List.length_map, List.length_take] at this
      omega
    have hne : h ≠ [] := fun z => by rw [z] at hl; exact h0 hl.symm
    obtain ⟨h1, t, rfl⟩ : ∃ h1 t, h = h1 ++ [t] := ⟨h.dropLast, h.getLast hne, (List.dropLast_concat_getLast hne).symm⟩
    rw [List.length_append, List.length_singleton] at hl
    refine ⟨t, h1, t.n, rfl, ?_, rfl, ?_⟩
    · have e1 : fleet[p - 1]? = some t.n := by
        have e2 : ((h1 ++ [t]).map (·.n))[p - 1]? = some t.n := by
          rw [show p - 1 = h1.length by omega]
          simp
        rw [e, List.getElem?_take_of_lt (by omega)] at e2
        exact e2
      have e3 : ((p : Nat) : Int) - 1 = ((p - 1 : Nat) : Int) := by omega
      rw [e3]
      exact atI_nat (by rw [List.getElem?_map, e1]; rfl)
    · unfold later
      simp only [List.getLast?_append, List.getLast?_singleton, Option.some_or, hs]
theorem all1_q {u : Rule} {fleet : List Nat} {p l : Nat} {S : List Ship} {h : Hid} {k : Nat} {s : Ship} {acc : List Hid} {vs vh vg : OV} (hvs : fz vs = .list (S.map Ship.d)) (hvh : fz vh = .list (S.map fun s => dtD (halo u s))) (hvg : fz vg = .list (S.map fun s => .list (s.cells.map cD)))
    (hr : RowOk fleet p h) (hk : S[k]? = some s) (hs : s.n = l) (ha : acc.length < sizeLine) (hl : h.length ≤ 100) :
    q__law_all_1 (fD fleet) [.int (p : Nat), .int (l : Nat)] vs vh vg [hD h, halD u h] (.int (k : Nat)) (shL (rowD u) acc) = .next (shL (rowD u) (acc ++ if okNext u h s = true then [h ++ [s]] else [])) := by
  have a1 : atI (S.map Ship.d) (k : Nat) = some s.d := atI_nat (by rw [List.getElem?_map, hk]; rfl)
  have a2 : atI (S.map fun s => dtD (halo u s)) (k : Nat) = some (dtD (halo u s)) := atI_nat (by rw [List.getElem?_map, hk]; rfl)
  have a3 : atI (S.map fun s => PyData.list (s.cells.map cD)) (k : Nat) = some (.list (s.cells.map cD)) := atI_nat (by rw [List.getElem?_map, hk]; rfl)
  have fq := free_q (u := u) (h := h) (s := s)
  obtain ⟨l0, l1⟩ := later_q hr hs
  have g1 : gAdd (.sh (hD h)) (.sh (.tuple [s.d])) = some (.sh (hD (h ++ [s]))) := by
    unfold hD
    rw [gAdd_TT (by rw [List.length_map, List.length_singleton, sizeLine_eq]; omega), List.map_append]; rfl
  have g2 : gAdd (.sh (halD u h)) (.lst [.sh (dtD (halo u s))]) = some (.lst ((h ++ [s]).map fun s => .sh (dtD (halo u s)))) := by
    unfold halD
    rw [gAdd_Ll (by rw [List.length_map, List.length_singleton, sizeLine_eq]; omega)]
    simp [fz_sh]
  have ap := mutR_some (app_shL (en := rowD u) (a := acc) (c := h ++ [s]) ha)
  have mf : fz (.lst ((h ++ [s]).map fun s => OV.sh (dtD (halo u s)))) = halD u (h ++ [s]) := fz_shL
  have ce : (((p : Nat) : Int) = 0) ↔ p = 0 := by omega
  unfold rowD at ap
  have fin : okNext u h s = (later h s && h.all fun t => keepB u t s) := rfl
  unfold q__law_all_1
  by_cases hp : p = 0
  · have e2 := (l0 hp).2
    rw [e2] at fin
    clear l0 l1 hk hr
    cases hq : h.all fun t => keepB u t s with
    | false => rw [hq] at fq fin; clear g1 g2 ap mf; get_elem_tactic_trivial; simp
    | true => rw [hq] at fq fin; get_elem_tactic_trivial; rw [shL, List.map_append]; rfl
  · obtain ⟨t, h0, k', e1, e2, e3, e4⟩ := l1 hp
    have gl : Ev.gSub (.sh (hD h)) (.sh (.int (-1))) = some (.sh t.d) := by
      unfold hD
      rw [gSub_tup, e1, List.map_append, List.map_cons, List.map_nil, atI_last]; rfl
    have glt := gLt_ship (s := t) (t := s)
    have ck : (((k' : Nat) : Int) = (l : Nat)) ↔ k' = l := by omega
    rw [e4] at fin
    clear l0 l1 hk hr e1 e4 e3
    by_cases hkl : k' = l
    · have hkl' : decide (k' ≠ l) = false := by simp [hkl]
      rw [hkl', Bool.false_or] at fin
      cases hlt : t.lt s with
      | false => rw [hlt] at glt fin; clear g1 g2 ap mf fq; get_elem_tactic_trivial; simp
      | true =>
        rw [hlt] at glt fin
        cases hq : h.all fun t => keepB u t s with
        | false => rw [hq] at fq fin; clear g1 g2 ap mf; get_elem_tactic_trivial; simp
        | true => rw [hq] at fq fin; get_elem_tactic_trivial; rw [shL, List.map_append]; rfl
    · have hkl' : decide (k' ≠ l) = true := by simp [hkl]
      rw [hkl', Bool.true_or] at fin
      cases hq : h.all fun t => keepB u t s with
      | false => rw [hq] at fq fin; clear g1 g2 ap mf; get_elem_tactic_trivial; simp
      | true => rw [hq] at fq fin; get_elem_tactic_trivial; rw [shL, List.map_append]; rfl
def pickF {α β : Type} (S : List α) (f : α → List β) (k : Nat) : List β := match S[k]? with
  | some s => f s
  | none => []
theorem pickF_at {α β : Type} {S : List α} {f : α → List β} {k : Nat} {s : α} (h : S[k]? = some s) : pickF S f k = f s := by unfold pickF; rw [h]
theorem flat_range {α β : Type} (f : α → List β) : ∀ S : List α, (List.range S.length).flatMap (pickF S f) = S.flatMap f := by
  intro S
  have h : (List.range S.length).map (fun k => S[k]?) = S.map some := by
    apply List.ext_getElem?
    intro i
    by_cases hi : i < S.length
    · simp [hi]
    · simp [hi]
  have e : (List.range S.length).flatMap (pickF S f) = ((List.range S.length).map (fun k => S[k]?)).flatMap (fun o => match o with | some s => f s | none => []) := by rw [List.flatMap_map]; rfl
  rw [e, h, List.flatMap_map]
theorem flat_filter {α β : Type} (p : α → Bool) (g : α → β) : ∀ S : List α, S.flatMap (fun s => if p s = true then [g s] else []) = (S.filter p).map g
  | [] => rfl
  | s :: S => by
    rw [List.flatMap_cons, flat_filter p g S]
    cases h : p s <;> simp [h]
theorem all2_q {u : Rule} {fleet : List Nat} {p l : Nat} {S : List Ship} {h : Hid} {acc : List Hid} {vs vh vg : OV} {x : PyData} (hvs : fz vs = .list (S.map Ship.d)) (hvh : fz vh = .list (S.map fun s => dtD (halo u s))) (hvg : fz vg = .list (S.map fun s => .list (s.cells.map cD)))
    (hr : RowOk fleet p h) (hs : ∀ s ∈ S, s.n = l) (ha : acc.length + (((S.filter (okNext u h)).map fun s => h ++ [s])).length < sizeLine) (hl : h.length ≤ 100) (hS : S.length ≤ 1000) :
    q__law_all_2 (fD fleet) [.int (p : Nat), .int (l : Nat)] vs vh vg [hD h, halD u h] x (shL (rowD u) acc) = .next (shL (rowD u) (acc ++ (S.filter (okNext u h)).map fun s => h ++ [s])) := by
  have rg := rng1R_n (k := S.length) (by omega)
  have fe : (List.range S.length).flatMap (pickF S fun s => if okNext u h s = true then [h ++ [s]] else []) = (S.filter (okNext u h)).map fun s => h ++ [s] := by
    rw [flat_range (fun s => if okNext u h s = true then [h ++ [s]] else []), flat_filter (okNext u h) fun s => h ++ [s]]
  unfold q__law_all_2
  get_elem_tactic_trivial
  rw [forO_g1 (fun k : Nat => .int (k : Nat)) (rowD u) (pickF S fun s => if okNext u h s = true then [h ++ [s]] else []) (sizeLine - 1)]
  · rw [fe]
    decreasing_trivial_pre_omega
  · rw [fe]; omega
  · intro k hk a hb
    rw [List.mem_range] at hk
    have e := List.getElem?_eq_getElem hk
    rw [pickF_at e] at hb ⊢
    have hlt : a.length < sizeLine := by have := sizeLine_eq; omega
    exact all1_q hvs hvh hvg hr e (hs _ (List.getElem_mem hk)) hlt hl
theorem all3_q {R C : Nat} {u : Rule} {fleet : List Nat} {p l : Nat} {rows : List Hid} {x : PyData} (hR : R ≤ 8) (hC : C ≤ 8) (hl : l ≤ 1000) (hr : ∀ h ∈ rows, RowOk fleet p h) (hf : fleet.length ≤ 100) (hb : (extH R C u rows l).length < sizeLine) (hb0 : rows.length < sizeLine) :
    q__law_all_3 (cD (R, C)) (fD fleet) u.d [.int (p : Nat), .int (l : Nat)] x (shL (rowD u) rows) = .next (shL (rowD u) (extH R C u rows l)) := by
  have hb8 : R * (C * 2) ≤ 8 * 16 := Nat.mul_le_mul (by omega) (by omega)
  have sl := ships_len (R := R) (C := C) (l := l)
  have sq := law_ships_q (R := R) (C := C) (l := l) (by omega) (by omega)
  have sn : ∀ s ∈ ships R C l, s.n = l := fun s hs => mem_shipsN hs
  unfold extH at hb ⊢
  generalize ships R C l = S at *
  have hz : S.length ≤ sizeLine := by rw [sizeLine_eq]; omega
  have z1 := szR_le (x := OV.lst (S.map fun s => dtC (halo u s))) hz
  have z2 := szR_le (x := OV.lst (S.map fun s => shL cD s.cells)) hz
  have m1 : fz (.lst (S.map fun s => dtC (halo u s))) = .list (S.map fun s => dtD (halo u s)) := by
    rw [fz_lst, List.map_map]
    exact congrArg _ (List.map_congr_left fun s _ => fz_dtC _)
  have m2 : fz (.lst (S.map fun s => shL cD s.cells)) = .list (S.map fun s => .list (s.cells.map cD)) := by
    rw [fz_lst, List.map_map]
    exact congrArg _ (List.map_congr_left fun s _ => fz_shL)
  have m3 : fz (shL Ship.d S) = .list (S.map Ship.d) := fz_shL
  have h1 : ∀ s ∈ S, q__law_halo [u.d, s.d] = .ok (dtC (halo u s)) := fun s hs => halo_q (by rw [sn s hs]; exact hl)
  have h2 : ∀ s ∈ S, q__law_cells [s.d] = .ok (shL cD s.cells) := fun s hs => law_cells_q (by rw [sn s hs]; exact hl)
  have l1 : ∀ g : PyData → Ev.R (Option OV), (∀ s ∈ S, g s.d = .ok (some (dtC (halo u s)))) → lcR g (S.map Ship.d) = .ok (S.map fun s => dtC (halo u s)) := fun g hg => lcR_map _ _ S hg
  have l2 : ∀ g : PyData → Ev.R (Option OV), (∀ s ∈ S, g s.d = .ok (some (shL cD s.cells))) → lcR g (S.map Ship.d) = .ok (S.map fun s => shL cD s.cells) := fun g hg => lcR_map _ _ S hg
  unfold q__law_all_3
  unfold cD at sq ⊢
  get_elem_tactic_trivial
  rw [l1]
  · get_elem_tactic_trivial
    rw [l2]
    · get_elem_tactic_trivial
      rw [forO_g0 (rowD u) (rowD u) (fun h => (S.filter (okNext u h)).map fun s => h ++ [s]) (sizeLine - 1)]
      · decreasing_trivial_pre_omega
      · omega
      · intro h hh a ha
        have hz := sizeLine_eq
        have hlen : h.length ≤ 100 := by
          have := congrArg List.length (hr h hh).1
          rw [List.length_map, List.length_take] at this
          omega
        have := all2_q (x := rowD u h) (acc := a) m3 m1 m2 (hr h hh) sn (by omega) hlen (by omega)
        have hu : unT 2 (rowD u h) = .ok [hD h, halD u h] := rfl
        simp only [hu, O.of_ok, O.bind_next]
        exact this
    · intro s hs
      have := h2 s hs
      get_elem_tactic_trivial
  · intro s hs
    have := h1 s hs
    get_elem_tactic_trivial
theorem enum_map {α : Type} (e : α → PyData) : ∀ (xs : List α) (i : Nat), enumD i (xs.map e) = (xs.zipIdx i).map fun q => .tuple [.int (q.2 : Nat), e q.1]
  | [], _ => rfl
  | x :: xs, i => by rw [List.map_cons, enumD, enum_map e xs (i + 1), List.zipIdx_cons]; rfl
theorem law_all_q {R C : Nat} {u : Rule} {fleet : List Nat} (hR : R ≤ 8) (hC : C ≤ 8) (hf : ∀ l ∈ fleet, l ≤ 1000) (hn : fleet.length ≤ 100) (hb : ∀ k, k ≤ fleet.length → (allH R C u (fleet.take k)).length < sizeLine) :
    q__law_all [cD (R, C), fD fleet, u.d] = .ok (shL hD (allH R C u fleet)) := by
  have key : ∀ (post : List Nat) (pre : List Nat), pre ++ post = fleet → forO ((post.zipIdx pre.length).map fun q => .tuple [.int (q.2 : Nat), .int ((q.1 : Nat) : Int)]) (fun x s => O.bind (O.of (unT 2 x)) fun t => q__law_all_3 (cD (R, C)) (fD fleet) u.d t x s) (shL (rowD u) (allH R C u pre)) = .next (shL (rowD u) (allH R C u fleet)) := by
    intro post
    induction post with
    | nil => intro pre e; rw [List.append_nil] at e; subst e; rfl
    | cons l post ih =>
      intro pre e
      have tk : fleet.take pre.length = pre := by rw [← e]; simp
      have tk1 : fleet.take (pre.length + 1) = pre ++ [l] := by
        have e2 : pre ++ l :: post = (pre ++ [l]) ++ post := by simp
        rw [← e, e2]
        exact List.take_left' (by simp)
      have lt : pre.length < fleet.length := by rw [← e]; simp
      have b0 := hb pre.length (by omega)
      have b1 := hb (pre.length + 1) (by omega)
      rw [tk] at b0
      rw [tk1, allH_snoc] at b1
      have st := all3_q (x := .tuple [.int ((pre.length : Nat) : Int), .int ((l : Nat) : Int)]) hR hC (hf l (by rw [← e]; simp)) (rows := allH R C u pre) (p := pre.length) (fleet := fleet) (u := u) (fun h hh => ⟨by rw [allH_ns pre h hh, tk], lt⟩) hn b1 b0
      have := ih (pre ++ [l]) (by rw [List.append_assoc]; exact e)
      rw [List.length_append, List.length_singleton, allH_snoc] at this
      rw [List.zipIdx_cons, List.map_cons, forO_cons]
      simp only [unT_l2, O.of_ok, O.bind_next, st]
      exact this
  have k0 := key fleet [] rfl
  simp only [List.length_nil] at k0
  have en : enR (.sh (fD fleet)) = .ok ((fleet.zipIdx 0).map fun q => .tuple [.int (q.2 : Nat), .int ((q.1 : Nat) : Int)]) := by
    unfold enR
    rw [fz_sh]
    show Ev.R.ok (enumD 0 (fleet.map fun n => .int (n : Nat))) = _
    rw [enum_map]
  have s0 : shL (rowD u) (allH R C u []) = .lst [.sh (.tuple [.tuple [], .list []])] := rfl
  rw [s0] at k0
  have hbF := hb fleet.length (Nat.le_refl _)
  rw [List.take_length] at hbF
  generalize allH R C u fleet = N at *
  have zz := szR_le (n := N.length) (x := shL hD N) (by omega)
  clear key s0
  unfold q__law_all q__law_all_0
  get_elem_tactic_trivial
  rw [lcR_map (rowD u) fun h => .sh (hD h)]
  · get_elem_tactic_trivial
  · intro h _
    have hu : unT 2 (rowD u h) = .ok [hD h, halD u h] := rfl
    get_elem_tactic_trivial
section
variable {α : Type} [DecidableEq α] {k : α → List Key} {d : α → PyData}
end
theorem allH_mem {R C : Nat} {u : Rule} : ∀ (fleet : List Nat) (h : Hid), h ∈ allH R C u fleet → ∀ t ∈ h, ∃ l ∈ fleet, t ∈ ships R C l := by
  suffices hs : ∀ n (f : List Nat), f.length = n → ∀ h, h ∈ allH R C u f → ∀ t ∈ h, ∃ l ∈ f, t ∈ ships R C l from fun f h hh => hs _ f rfl h hh
  intro n
  induction n with
  | zero => intro f hf h hh; have := List.eq_nil_of_length_eq_zero hf; subst this; simp [allH] at hh; subst hh; intro t ht; cases ht
  | succ n ih =>
    intro f hf h hh
    have hne : f ≠ [] := fun e => by rw [e] at hf; cases hf
    obtain ⟨g, l, rfl⟩ : ∃ g l, f = g ++ [l] := ⟨f.dropLast, f.getLast hne, (List.dropLast_concat_getLast hne).symm⟩
    rw [List.length_append, List.length_singleton] at hf
    rw [allH_snoc] at hh
    unfold extH at hh
    simp only [List.mem_flatMap, List.mem_map, List.mem_filter] at hh
    obtain ⟨h0, hh0, s, ⟨hs, _⟩, rfl⟩ := hh
    intro t ht
    rcases List.mem_append.mp ht with ht | ht
    · obtain ⟨l', h1, h2⟩ := ih g (by omega) h0 hh0 t ht
      exact ⟨l', List.mem_append_left _ h1, h2⟩
    · rw [List.mem_singleton.mp ht]
      exact ⟨l, by simp, hs⟩
theorem ships_nodup (R C l : Nat) : (ships R C l).Nodup := by
  refine (ships_lt R C l).imp fun {x y} h e => ?_
  subst e
  have := lt_asymm h
  rw [h] at this; cases this
def srt (ns : List Nat) : List Nat := ns.mergeSort fun a b => decide (a ≤ b)
abbrev nD (n : Nat) : PyData := .int (n : Nat)
theorem EqE.nat : EqE nD 0 := ⟨fun _ => by simp [PyData.canLay0], fun _ => by simp [PyData.depth], fun x y => by rw [eqv_int, decide_eq_true_eq]; exact Int.natCast_inj⟩
theorem leD_nat (a b : Nat) : leD (nD a) (nD b) = decide (a ≤ b) := by
  rw [leD_eq, PySem.W.dataLt_int, Bool.eq_iff_iff]
  simp
theorem sort_nats {ns : List Nat} (hl : ns.length ≤ sizeLine) : dSorted (.tuple (ns.map nD)) = some (shL nD (srt ns)) := by
  unfold dSorted sortD
  simp only
  have ok : sortOk (ns.map nD) = true := sort_ok EqE.nat (by decide) (fun x _ y _ => by simp [PySem.W.alike]) (.inr fun x => rfl) hl
  rw [if_pos ok, shL]
  have e := List.map_mergeSort (r := fun a b => decide (a ≤ b)) (s := leD) (f := nD) (l := ns) fun a _ b _ => (leD_nat a b).symm
  unfold srt
  rw [← e, List.map_map]; rfl
theorem srt_perm (ns : List Nat) : (srt ns).Perm ns := List.mergeSort_perm ..
def fleetOf (ns : List Nat) : List Nat := (srt ns).reverse
theorem fleetOf_perm (ns : List Nat) : (fleetOf ns).Perm ns := (List.reverse_perm _).trans (srt_perm ns)
theorem fleetOf_len (ns : List Nat) : (fleetOf ns).length = ns.length := (fleetOf_perm ns).length_eq
theorem fleetOf_mem {ns : List Nat} {n : Nat} : n ∈ fleetOf ns ↔ n ∈ ns := (fleetOf_perm ns).mem_iff
theorem rev_sh {ns : List Nat} : dRev (.list ((srt ns).map nD)) = some (shL nD (fleetOf ns)) := by
  unfold dRev fleetOf shL
  simp only [← List.map_reverse, List.map_map]
  rfl
structure Game (R C : Nat) (fleet : List Nat) : Prop where
  r1 : 1 ≤ R
  r8 : R ≤ 5
  c1 : 1 ≤ C
  c8 : C ≤ 5
  f1 : fleet ≠ []
  f3 : fleet.length ≤ 3
  fl : ∀ l ∈ fleet, 1 ≤ l ∧ l ≤ 4
  few : (R * (C * 2)) ^ fleet.length ≤ 14000
def ruleAt (n : Nat) : Rule := match n with
  | 0 => .free
  | 1 => .sides
  | _ => .corners
theorem rule_at {n : Nat} (h : n < 3) : atI [PyData.str "free", .str "sides", .str "corners"] (n : Nat) = some (ruleAt n).d := by
  rcases n with _ | _ | _ | n
  · rfl
  · rfl
  · rfl
  · omega
theorem game_q (cell : Int) : ∃ R C fleet u, Game R C fleet ∧ q__law_game [.int cell] = .ok (.sh (.tuple [cD (R, C), fD fleet, Rule.d u])) := by
  obtain ⟨xs, hd, hx⟩ := drawn_q cell [4, 4, 4, 4, 4, 4, 3] (by decide) (by decide)
  obtain ⟨way, rows, columns, first, second, third, rule, rfl, h0, h1, h2, h3, h4, h5, h6⟩ := drawn7 hx
  clear hx
  obtain ⟨way, rfl⟩ := nat_of h0.1
  obtain ⟨rows, rfl⟩ := nat_of h1.1
  obtain ⟨columns, rfl⟩ := nat_of h2.1
  obtain ⟨first, rfl⟩ := nat_of h3.1
  obtain ⟨second, rfl⟩ := nat_of h4.1
  obtain ⟨third, rfl⟩ := nat_of h5.1
  obtain ⟨rule, rfl⟩ := nat_of h6.1
  simp only [List.map_cons, List.map_nil] at hd
  have er := rule_at (n := rule) (by omega)
  have s1 : dSorted (.tuple [.int (1 + (first : Int))]) = some (shL nD (srt [1 + first])) := sort_nats (ns := [1 + first]) (by rw [sizeLine_eq]; simp)
  have s2 : dSorted (.tuple [.int (1 + (first : Int) % 3), .int (1 + (second : Int) % 3)]) = some (shL nD (srt [1 + first % 3, 1 + second % 3])) := sort_nats (ns := [1 + first % 3, 1 + second % 3]) (by rw [sizeLine_eq]; simp)
  have s3 : dSorted (.tuple [.int (1 + (first : Int) % 3), .int (1 + (second : Int) % 2), .int (1 + (third : Int) % 2)]) = some (shL nD (srt [1 + first % 3, 1 + second % 2, 1 + third % 2])) := sort_nats (ns := [1 + first % 3, 1 + second % 2, 1 + third % 2]) (by rw [sizeLine_eq]; simp)
  have s4 : dSorted (.tuple [.int (1 + (first : Int) % 3), .int (1 + (second : Int) % 3), .int (1 + (third : Int) % 2)]) = some (shL nD (srt [1 + first % 3, 1 + second % 3, 1 + third % 2])) := sort_nats (ns := [1 + first % 3, 1 + second % 3, 1 + third % 2]) (by rw [sizeLine_eq]; simp)
  have way4 : way = 0 ∨ way = 1 ∨ way = 2 ∨ way = 3 := by omega
  have rv := fun ns => rev_sh (ns := ns)
  have tp := fun ns => dTuple_l (ds := (fleetOf ns).map nD)
  have m0 : ∀ x y z : PyData, atI [x, y, z] (min2 0 2) = some x := fun _ _ _ => rfl
  have m1 : ∀ x y z : PyData, atI [x, y, z] (min2 1 2) = some y := fun _ _ _ => rfl
  have m2 : ∀ x y z : PyData, atI [x, y, z] (min2 2 2) = some z := fun _ _ _ => rfl
  have m3 : ∀ x y z : PyData, atI [x, y, z] (min2 3 2) = some z := fun _ _ _ => rfl
  have k0 : ∀ x y z : PyData, atI [x, y, z] (0 % 3) = some x := fun _ _ _ => rfl
  have k1 : ∀ x y z : PyData, atI [x, y, z] (1 % 3) = some y := fun _ _ _ => rfl
  have k2 : ∀ x y z : PyData, atI [x, y, z] (2 % 3) = some z := fun _ _ _ => rfl
  have k3 : ∀ x y z : PyData, atI [x, y, z] (3 % 3) = some x := fun _ _ _ => rfl
  have mf := fun ns => map_fz_shL (e := nD) (xs := fleetOf ns)
  have g : ∀ (R C : Nat) (ns : List Nat) (B : Nat), 1 ≤ R → R ≤ 5 → 1 ≤ C → C ≤ 5 → ns ≠ [] → ns.length ≤ 3 → (∀ l ∈ ns, 1 ≤ l ∧ l ≤ 4) → R * (C * 2) ≤ B → B ^ ns.length ≤ 14000 → Game R C (fleetOf ns) := fun R C ns B h1 h2 h3 h4 h5 h6 h7 h8 h9 =>
    ⟨h1, h2, h3, h4, fun e => h5 (by have := fleetOf_len ns; rw [e] at this; exact List.eq_nil_of_length_eq_zero this.symm), by rw [fleetOf_len]; exact h6, fun l hl => h7 l (fleetOf_mem.mp hl), by rw [fleetOf_len]; exact Nat.le_trans (Nat.pow_le_pow_left h8 _) h9⟩
  unfold q__law_game q__law_game_0
  rcases way4 with rfl | rfl | rfl | rfl
  · refine ⟨1 + rows, 1 + columns, fleetOf [1 + first], ruleAt rule, g _ _ _ 32 (by omega) (by omega) (by omega) (by omega) (by simp) (by simp) (by simp; omega) ?_ (by simp), ?_⟩
    · exact Nat.mul_le_mul (show 1 + rows ≤ 4 by omega) (show (1 + columns) * 2 ≤ 8 by omega)
    · clear h0 h1 h2 h3 h4 h5 h6 g
      unfold cD fD
      push_cast
      get_elem_tactic_trivial
  · refine ⟨2 + rows % 3, 2 + columns % 3, fleetOf [1 + first % 3, 1 + second % 3], ruleAt rule, g _ _ _ 32 (by omega) (by omega) (by omega) (by omega) (by simp) (by simp) (by simp; omega) ?_ (by simp), ?_⟩
    · exact Nat.mul_le_mul (show 2 + rows % 3 ≤ 4 by omega) (show (2 + columns % 3) * 2 ≤ 8 by omega)
    · clear h0 h1 h2 h3 h4 h5 h6 g
      unfold cD fD
      push_cast
      get_elem_tactic_trivial
  · refine ⟨1 + rows % 3, 3 + columns % 2, fleetOf [1 + first % 3, 1 + second % 2, 1 + third % 2], ruleAt rule, g _ _ _ 24 (by omega) (by omega) (by omega) (by omega) (by simp) (by simp) (by simp; omega) ?_ (by simp), ?_⟩
    · exact Nat.mul_le_mul (show 1 + rows % 3 ≤ 3 by omega) (show (3 + columns % 2) * 2 ≤ 8 by omega)
    · clear h0 h1 h2 h3 h4 h5 h6 g
      unfold cD fD
      push_cast
      get_elem_tactic_trivial
  · refine ⟨2, 2 + columns, fleetOf [1 + first % 3, 1 + second % 3, 1 + third % 2], ruleAt rule, g _ _ _ 20 (by omega) (by omega) (by omega) (by omega) (by simp) (by simp) (by simp; omega) ?_ (by simp), ?_⟩
    · exact Nat.mul_le_mul (show 2 ≤ 2 by omega) (show (2 + columns) * 2 ≤ 10 by omega)
    · clear h0 h1 h2 h3 h4 h5 h6 g
      unfold cD fD
      push_cast
      get_elem_tactic_trivial
theorem Game.all_lt {R C : Nat} {u : Rule} {fleet : List Nat} (g : Game R C fleet) (k : Nat) (hk : k ≤ fleet.length) : (allH R C u (fleet.take k)).length < sizeLine := by
  have h := allH_len (R := R) (C := C) (u := u) (fleet.take k)
  have h1 : 1 ≤ R * (C * 2) := Nat.mul_pos g.r1 (Nat.mul_pos g.c1 (by decide))
  have h2 : (R * (C * 2)) ^ (fleet.take k).length ≤ (R * (C * 2)) ^ fleet.length := Nat.pow_le_pow_right h1 (by rw [List.length_take]; omega)
  have := g.few
  rw [sizeLine_eq]
  omega
theorem Game.law_q {R C : Nat} {u : Rule} {fleet : List Nat} (g : Game R C fleet) : q__law_all [cD (R, C), fD fleet, u.d] = .ok (shL hD (allH R C u fleet)) :=
  law_all_q (Nat.le_trans g.r8 (by decide)) (Nat.le_trans g.c8 (by decide)) (fun l hl => Nat.le_trans (g.fl l hl).2 (by decide)) (Nat.le_trans g.f3 (by decide)) fun k hk => g.all_lt k hk
theorem Game.all_le {R C : Nat} {u : Rule} {fleet : List Nat} (g : Game R C fleet) : (allH R C u fleet).length ≤ 14000 := Nat.le_trans (allH_len fleet) g.few
theorem Game.one {R C : Nat} {fleet : List Nat} (g : Game R C fleet) : Game R C [1] :=
  ⟨g.r1, g.r8, g.c1, g.c8, by simp, by decide, by simp, by have := Nat.mul_le_mul g.r8 (Nat.mul_le_mul_right 2 g.c8); rw [List.length_singleton, Nat.pow_one]; omega⟩
theorem one_ne {R C : Nat} {u : Rule} (h1 : 1 ≤ R) (h2 : 1 ≤ C) : allH R C u [1] ≠ [] := by
  have : (⟨0, 0, true, 1⟩ : Ship) ∈ ships R C 1 := by
    rw [mem_ships (by decide)]
    refine ⟨rfl, ?_⟩
    have := (ok_along (R := R) (C := C) (r := 0) (c := 0) (n := 1) (by decide)).mpr ⟨by omega, by omega, by omega, by omega⟩
    exact this
  intro e
  have hm : [(⟨0, 0, true, 1⟩ : Ship)] ∈ allH R C u [1] := by
    show _ ∈ extH R C u [[]] 1
    unfold extH
    simp only [List.flatMap_cons, List.flatMap_nil, List.append_nil, List.mem_map, List.mem_filter]
    exact ⟨_, ⟨this, rfl⟩, rfl⟩
  rw [e] at hm; cases hm
theorem played_q (cell : Int) : ∃ R C fleet u, Game R C fleet ∧ allH R C u fleet ≠ [] ∧ q__law_played [.int cell] = .ok (.sh (.tuple [cD (R, C), fD fleet, Rule.d u, .list ((allH R C u fleet).map hD)])) := by
  obtain ⟨R, C, fleet, u, g, hq⟩ := game_q cell
  have a := g.law_q (u := u)
  have b := g.one.law_q (u := u)
  have e1 := EqE.ship.tup.eqND (by decide) (neg := false) (xs := allH R C u fleet)
  have e1 : gEq false (.sh (.list ((allH R C u fleet).map hD))) (.lst []) = some (.sh (.bool (false ^^ (allH R C u fleet).isEmpty))) := e1
  have m1 := fz_shL (e := hD) (xs := allH R C u fleet)
  have m2 := fz_shL (e := hD) (xs := allH R C u [1])
  have f1 : fD [1] = .tuple [.int 1] := rfl
  rw [f1] at b
  by_cases h : allH R C u fleet = []
  · refine ⟨R, C, [1], u, g.one, one_ne g.r1 g.c1, ?_⟩
    have h0 : (allH R C u fleet).isEmpty = true := by rw [h]; rfl
    clear h
    unfold q__law_played q__law_played_0
    rw [f1]
    generalize fD fleet = F at *
    clear g f1
    get_elem_tactic_trivial
  · refine ⟨R, C, fleet, u, g, h, ?_⟩
    have h0 : (allH R C u fleet).isEmpty = false := by rw [Bool.eq_false_iff]; simpa using h
    clear h
    unfold q__law_played q__law_played_0
    generalize fD fleet = F at *
    clear g f1
    get_elem_tactic_trivial
def InB (p : Cell) : Prop := 0 ≤ p.1 ∧ p.1 < 8 ∧ 0 ≤ p.2 ∧ p.2 < 8
def bx (p : Cell) : Nat := 8 * p.1.toNat + p.2.toNat
def Bits (n : Nat) (S : List Cell) : Prop := ∀ i, n.testBit i = S.any fun p => decide (bx p = i)
theorem Bits.nil : Bits 0 [] := fun i => by simp
theorem Bits.one (p : Cell) : Bits (2 ^ bx p) [p] := fun i => by
  rw [Nat.testBit_two_pow]; simp
theorem Bits.or {n m : Nat} {S T : List Cell} (h : Bits n S) (k : Bits m T) : Bits (n ||| m) (S ++ T) := fun i => by
  rw [Nat.testBit_or, h i, k i, List.any_append]
theorem Bits.lt {n k : Nat} {S : List Cell} (h : Bits n S) (hk : ∀ p ∈ S, bx p < k) : n < 2 ^ k := by
  apply Nat.lt_pow_two_of_testBit
  intro i hi
  rw [h i, List.any_eq_false]
  intro p hp
  have := hk p hp
  simp; omega
inductive Ans where
  | water | hit | sunk
  deriving DecidableEq
def Ans.s : Ans → Str
  | .water => "water" | .hit => "hit" | .sunk => "sunk"
abbrev Ans.d (a : Ans) : PyData := .str a.s
theorem Ans.ok (a : Ans) : PyData.strOk a.s = true := by cases a <;> decide +kernel
theorem Ans.inj (a b : Ans) : a.s = b.s ↔ a = b := by cases a <;> cases b <;> decide +kernel
theorem EqE.ans : EqE Ans.d 0 := ⟨fun a => by simp [PyData.canLay0, a.ok], fun _ => by simp [PyData.depth], fun a b => by simp [PyData.eqv, Ans.inj]⟩
def sinkB (s : Ship) (shot : List Cell) : Bool := s.cells.all fun p => decide (p ∈ shot)
def ansOf (h : Hid) (shot : List Cell) (c : Cell) : Ans := match h.find? fun s => decide (c ∈ s.cells) with
  | none => .water
  | some s => if sinkB s (c :: shot) = true then .sunk else .hit
def ansL (h : Hid) : List Cell → List Cell → List Ans
  | _, [] => []
  | shot, c :: cs => ansOf h shot c :: ansL h (c :: shot) cs
def Ship.inB (s : Ship) : Prop := s.n ≤ 1000 ∧ ∀ p ∈ s.cells, InB p
theorem cells_nodup (s : Ship) : s.cells.Nodup := by
  unfold Ship.cells
  rw [List.nodup_iff_pairwise_ne, List.pairwise_map]
  refine List.pairwise_lt_range.imp fun {a b} hab e => ?_
  cases h : s.al <;> simp [h] at e <;> omega
theorem InB.cons {c : Cell} {S : List Cell} (hc : InB c) (hS : ∀ q ∈ S, InB q) : ∀ q ∈ c :: S, InB q := fun q hq => by
  rcases List.mem_cons.mp hq with rfl | hq
  · exact hc
  · exact hS q hq
abbrev Rec := List (Cell × Ans)
def rD (q : Cell × Ans) : PyData := .tuple [cD q.1, q.2.d]
theorem EqE.row : EqE rD 2 := (EqE.cell.pair EqE.ans)
def leftN (s : Ship) (shot : List Cell) : Nat := (s.cells.filter fun p => !decide (p ∈ shot)).length
theorem leftN_nil (s : Ship) : leftN s [] = s.n := by
  unfold leftN
  rw [← len_cells s]
  congr 1
  rw [List.filter_eq_self]
  simp
theorem leftN_cons {s : Ship} {shot : List Cell} {c : Cell} (hc : c ∉ shot) : leftN s (c :: shot) + (if c ∈ s.cells then 1 else 0) = leftN s shot := by
  unfold leftN
  have nd := cells_nodup s
  generalize s.cells = S at *
  induction S with
  | nil => rfl
  | cons p S ih =>
    rw [List.nodup_cons] at nd
    have ih := ih nd.2
    by_cases e : p = c
    · subst e
      have e2 : ∀ T : List Cell, p ∉ T → (T.filter fun q => !decide (q ∈ p :: shot)) = T.filter fun q => !decide (q ∈ shot) := fun T hT => by
        apply List.filter_congr
        intro q hq
        have : q ≠ p := fun z => hT (z ▸ hq)
        simp [this]
      rw [List.filter_cons, List.filter_cons, e2 S nd.1]
      simp [hc]
    · have e3 : (c ∈ p :: S) ↔ c ∈ S := by simp [Ne.symm e]
      rw [List.filter_cons, List.filter_cons]
      simp only [e3]
      by_cases h : p ∈ shot
      · have f1 : (!decide (p ∈ c :: shot)) = false := by simp [h]
        have f2 : (!decide (p ∈ shot)) = false := by simp [h]
        simp only [f1, f2, Bool.false_eq_true, if_false]
        exact ih
      · have f1 : (!decide (p ∈ c :: shot)) = true := by simp [h, e]
        have f2 : (!decide (p ∈ shot)) = true := by simp [h]
        simp only [f1, f2, if_true, List.length_cons]
        generalize (if c ∈ S then 1 else 0) = w at *
        omega
theorem sink_left {s : Ship} {shot : List Cell} : sinkB s shot = decide (leftN s shot = 0) := by
  unfold sinkB leftN
  rw [Bool.eq_iff_iff, List.all_eq_true, decide_eq_true_eq, List.length_eq_zero_iff, List.filter_eq_nil_iff]
  simp
def Apart (h : Hid) : Prop := h.Pairwise fun s t => ∀ p ∈ s.cells, p ∉ t.cells
def leftL (h : Hid) (k : Nat) (shot : List Cell) (c : Cell) : List Nat := (h.take k).map (leftN · (c :: shot)) ++ (h.drop k).map (leftN · shot)
theorem leftL_0 (h : Hid) (shot : List Cell) (c : Cell) : leftL h 0 shot c = h.map (leftN · shot) := by unfold leftL; simp
theorem leftL_end (h : Hid) (shot : List Cell) (c : Cell) : leftL h h.length shot c = h.map (leftN · (c :: shot)) := by unfold leftL; simp
theorem leftL_at {h : Hid} {k : Nat} {s : Ship} {shot : List Cell} {c : Cell} (hk : h[k]? = some s) : (leftL h k shot c)[k]? = some (leftN s shot) := by
  have hl := (List.getElem?_eq_some_iff.mp hk).1
  unfold leftL
  rw [List.getElem?_append_right (by simp; omega)]
  simp only [List.length_map, List.length_take, List.getElem?_map, List.getElem?_drop]
  rw [show k + (k - min k h.length) = k by omega, hk]; rfl
theorem leftL_set {h : Hid} {k : Nat} {s : Ship} {shot : List Cell} {c : Cell} (hk : h[k]? = some s) : (leftL h k shot c).set k (leftN s (c :: shot)) = leftL h (k + 1) shot c := by
  have hl := (List.getElem?_eq_some_iff.mp hk).1
  have hs := (List.getElem?_eq_some_iff.mp hk).2
  unfold leftL
  rw [List.set_append_right _ _ (by simp; omega), List.drop_eq_getElem_cons hl, hs, List.take_succ, hk]
  simp only [List.length_map, List.length_take, List.map_append, List.map_cons]
  rw [show k - min k h.length = 0 by omega, List.set_cons_zero]
  simp
theorem leftL_same {h : Hid} {k : Nat} {s : Ship} {shot : List Cell} {c : Cell} (hk : h[k]? = some s) (hc : c ∉ s.cells) (hn : c ∉ shot) : leftL h (k + 1) shot c = leftL h k shot c := by
  rw [← leftL_set hk]
  have e := leftN_cons (s := s) hn
  rw [if_neg hc, Nat.add_zero] at e
  rw [e]
  exact set_at (leftL_at hk)
theorem ansOf_take {h : Hid} {k : Nat} {s : Ship} {shot : List Cell} {c : Cell} (ha : Apart h) (hk : h[k]? = some s) :
    ansOf (h.take (k + 1)) shot c = if c ∈ s.cells then (if sinkB s (c :: shot) = true then .sunk else .hit) else ansOf (h.take k) shot c := by
  have hl := (List.getElem?_eq_some_iff.mp hk).1
  have hs := (List.getElem?_eq_some_iff.mp hk).2
  rw [List.take_succ, hk]
  unfold ansOf
  rw [List.find?_append]
  by_cases hc : c ∈ s.cells
  · have : (h.take k).find? (fun s => decide (c ∈ s.cells)) = none := by
      rw [List.find?_eq_none]
      intro t ht
      obtain ⟨i, hi⟩ := List.mem_iff_getElem?.mp ht
      rw [List.getElem?_take] at hi
      have ik : i < k := by
        by_cases q : i < k
        · exact q
        · rw [if_neg q] at hi; cases hi
      rw [if_pos ik] at hi
      obtain ⟨hl2, hi2⟩ := List.getElem?_eq_some_iff.mp hi
      have := List.pairwise_iff_getElem.mp ha i k hl2 hl ik
      rw [hi2, hs] at this
      intro z
      rw [decide_eq_true_eq] at z
      exact this c z hc
    rw [this]
    simp [hc]
  · simp [hc]
theorem setL {os : List OV} {i : Int} {o : OV} (h0 : 0 ≤ i) (h1 : i < (os.length : Nat)) : setR (.lst os) (.sh (.int i)) o = .ok (.lst (os.set i.toNat o)) := by
  obtain ⟨j, rfl⟩ := nat_of h0
  have e : setO (.lst os) (.int (j : Nat)) o = some (.lst (os.set j o)) := by
    unfold setO
    simp only
    rw [ixN_of (by omega)]; rfl
  unfold setR
  rw [fz_sh, e]
  rfl
theorem grounds_at {h : Hid} {k : Nat} {s : Ship} (hk : h[k]? = some s) : atI (h.map fun s => PyData.list (s.cells.map cD)) (k : Nat) = some (.list (s.cells.map cD)) := atI_nat (by rw [List.getElem?_map, hk]; rfl)
theorem gSubP_nat {L : List Nat} {k n : Nat} (h : L[k]? = some n) : gSubP (.list (L.map nD)) (.int (k : Nat)) = some (nD n) := by
  have : atI (L.map nD) (k : Nat) = some (nD n) := atI_nat (by rw [List.getElem?_map, h]; rfl)
  unfold gSubP gSubD
  simp only [this]
  rfl
theorem setN {L : List Nat} {k n : Nat} (h : k < L.length) : setR (shL nD L) (.sh (.int (k : Nat))) (.sh (nD n)) = .ok (shL nD (L.set k n)) := by
  unfold shL
  rw [setL (by omega) (by rw [List.length_map]; omega), Int.toNat_natCast, List.map_set]
theorem lawans1 {h : Hid} {k : Nat} {s : Ship} {shot : List Cell} {c : Cell} {v : OV} (ha : Apart h) (hk : h[k]? = some s) (hn : c ∉ shot) (hv : fz v = .list (h.map fun s => .list (s.cells.map cD))) :
    q__law_answers_1 v (cD c) (.int (k : Nat)) (shL nD (leftL h k shot c), .sh (ansOf (h.take k) shot c).d) = .next (shL nD (leftL h (k + 1) shot c), .sh (ansOf (h.take (k + 1)) shot c).d) := by
  have hl := (List.getElem?_eq_some_iff.mp hk).1
  have ga := grounds_at hk
  have gi := EqE.cell.inL (by decide) (neg := false) (x := c) (xs := s.cells) (a := .sh (cD c)) (b := .sh (.list (s.cells.map cD))) fz_sh fz_sh
  rw [Bool.false_xor] at gi
  have at0 := leftL_at (shot := shot) (c := c) hk
  have lset := leftL_set (shot := shot) (c := c) hk
  have lsame := fun h1 => leftL_same (shot := shot) (c := c) hk h1 hn
  have lc := leftN_cons (s := s) hn
  have an := ansOf_take (shot := shot) (c := c) ha hk
  have sl := sink_left (s := s) (shot := c :: shot)
  have ml := fun L => fz_shL (e := nD) (xs := L)
  have g3 := gSubP_nat at0
  rw [an]
  by_cases hc : c ∈ s.cells
  · rw [if_pos hc] at lc ⊢
    have dc : decide (c ∈ s.cells) = true := decide_eq_true hc
    have i1 : ((leftN s shot : Nat) : Int) - 1 = (leftN s (c :: shot) : Nat) := by omega
    have st := setN (L := leftL h k shot c) (k := k) (n := leftN s (c :: shot)) ((List.getElem?_eq_some_iff.mp at0).1)
    rw [lset] at st
    have at1 : (leftL h (k + 1) shot c)[k]? = some (leftN s (c :: shot)) := by
      rw [← lset, List.getElem?_set_self ((List.getElem?_eq_some_iff.mp at0).1)]
    have g4 := gSubP_nat at1
    have z0 : (((leftN s (c :: shot) : Nat) : Int) = 0) = (sinkB s (c :: shot) = true) := by
      rw [sl]
      refine propext ⟨fun h => ?_, fun h => ?_⟩
      · rw [decide_eq_true_eq]; omega
      · rw [decide_eq_true_eq] at h; omega
    have d1 : ∀ b : Bool, dInt (.bool b) = some (.sh (.int (if b = true then 1 else 0))) := fun b => by cases b <;> rfl
    generalize leftL h k shot c = L0 at *
    generalize leftL h (k + 1) shot c = L1 at *
    generalize leftN s (c :: shot) = n1 at *
    generalize leftN s shot = n0 at *
    generalize sinkB s (c :: shot) = sk at *
    clear an sl lset lsame at0 at1 lc ha hk hl
    unfold q__law_answers_1
    cases sk
    · get_elem_tactic_trivial
      rfl
    · get_elem_tactic_trivial
      rfl
  · rw [if_neg hc, lsame hc]
    have dc : decide (c ∈ s.cells) = false := decide_eq_false hc
    clear an sl lset lsame at0 lc ha hk hl
    unfold q__law_answers_1
    get_elem_tactic_trivial
theorem lawans2 {h : Hid} {shot : List Cell} {c : Cell} {v : OV} {acc : List Ans} (ha : Apart h) (hl : h.length ≤ 1000) (hn : c ∉ shot) (hv : fz v = .list (h.map fun s => .list (s.cells.map cD))) (hk : acc.length < 10000) :
    q__law_answers_2 (hD h) v (cD c) (shL nD (h.map (leftN · shot)), shL Ans.d acc) = .next (shL nD (h.map (leftN · (c :: shot))), shL Ans.d (acc ++ [ansOf h shot c])) := by
  obtain ⟨s', h1, h2⟩ := forO_inv (f := fun x s => q__law_answers_1 v (cD c) x s) (fun k s => k ≤ h.length ∧ s = (shL nD (leftL h k shot c), OV.sh (ansOf (h.take k) shot c).d)) ((List.range h.length).map fun z => .int ((z : Nat) : Int)) 0
    (shL nD (h.map (leftN · shot)), OV.sh (ansOf (h.take 0) shot c).d) ⟨Nat.zero_le _, by rw [leftL_0]⟩ (fun k d s hd hp => by
      obtain ⟨_, rfl⟩ := hp
      rw [List.getElem?_map] at hd
      obtain ⟨m, hm, rfl⟩ := Option.map_eq_some_iff.mp hd
      have hm2 := List.getElem?_eq_some_iff.mp hm
      have hlt := hm2.1
      have : m = k := by have := hm2.2; simpa using this.symm
      subst this
      rw [List.length_range] at hlt
      rw [Nat.zero_add]
      exact ⟨_, lawans1 ha (List.getElem?_eq_getElem hlt) hn hv, by omega, rfl⟩)
  obtain ⟨_, rfl⟩ := h2
  rw [List.length_map, List.length_range, Nat.zero_add, leftL_end, List.take_length] at h1
  have w : (ansOf (h.take 0) shot c).d = .str "water" := rfl
  rw [w] at h1
  have ln : ∀ os, os = [OV.sh (hD h)] → dLen (fz (OV.sh (hD h))) = some (.sh (.int (h.length : Nat))) := fun os _ => by unfold hD; rw [fz_sh, dLen_tup, List.length_map]
  have ln := ln _ rfl
  have ap := mutR_some (app_shL (en := Ans.d) (a := acc) (c := ansOf h shot c) (by rw [sizeLine_eq]; omega))
  have rg := rng1R_n (k := h.length) (by omega)
  rw [fz_sh] at ln
  generalize hD h = D at *
  clear ha hl hn hv hk w
  unfold q__law_answers_2
  get_elem_tactic_trivial
theorem lawans_loop {h : Hid} {v : OV} (ha : Apart h) (hl : h.length ≤ 1000) (hv : fz v = .list (h.map fun s => .list (s.cells.map cD))) : ∀ (cs shot : List Cell) (acc : List Ans), (∀ c ∈ cs, c ∉ shot) → cs.Nodup → acc.length + cs.length ≤ 1000 →
    ∃ L, forO (cs.map cD) (fun x s => q__law_answers_2 (hD h) v x s) (shL nD (h.map (leftN · shot)), shL Ans.d acc) = .next (L, shL Ans.d (acc ++ ansL h shot cs))
  | [], shot, acc, _, _, _ => ⟨_, by rw [List.map_nil, forO_nil, ansL, List.append_nil]⟩
  | c :: cs, shot, acc, hn, nd, hk => by
    rw [List.nodup_cons] at nd
    rw [List.length_cons] at hk
    obtain ⟨L, hL⟩ := lawans_loop ha hl hv cs (c :: shot) (acc ++ [ansOf h shot c]) (fun d hd hm => by
      rcases List.mem_cons.mp hm with rfl | hm
      · exact nd.1 hd
      · exact hn d (List.mem_cons_of_mem _ hd) hm) nd.2 (by rw [List.length_append, List.length_singleton]; omega)
    refine ⟨L, ?_⟩
    rw [List.map_cons, forO_cons, lawans2 ha hl (hn c List.mem_cons_self) hv (by omega), O.bind_next, hL, ansL, List.append_assoc]
    rfl
theorem law_answers_q {h : Hid} {cs : List Cell} (hs : ∀ s ∈ h, s.n ≤ 1000) (ha : Apart h) (hl : h.length ≤ 1000) (nd : cs.Nodup) (hc : cs.length ≤ 1000) : q__law_answers [hD h, .list (cs.map cD)] = .ok (shL Ans.d (ansL h [] cs)) := by
  have gf : fz (.lst (h.map fun s : Ship => shL cD s.cells)) = .list (h.map fun s => .list (s.cells.map cD)) := by
    rw [fz_lst, List.map_map]
    congr 1
    exact List.map_congr_left fun s _ => fz_shL
  obtain ⟨L, hL⟩ := lawans_loop ha hl gf cs [] [] (by simp) nd (by simpa using hc)
  rw [List.nil_append] at hL
  have l0 : (h.map fun s => leftN s []) = h.map (·.n) := List.map_congr_left fun s _ => leftN_nil s
  rw [l0] at hL
  have it : itR (.sh (hD h)) = .ok (h.map Ship.d) := by unfold hD; exact itR_tup
  have z := fun (f : Ship → OV) => szR_le (n := h.length) (x := OV.lst (h.map f)) (by rw [sizeLine_eq]; omega)
  have z1 := z fun s => .sh (nD s.n)
  have z2 := z fun s => shL cD s.cells
  have s1 : OV.lst (h.map fun s => .sh (nD s.n)) = shL nD (h.map (·.n)) := by unfold shL; rw [List.map_map]; rfl
  rw [s1] at z1
  have s0 : (OV.lst [] : OV) = shL Ans.d [] := rfl
  have lc : ∀ (f : Ship → OV) (g : PyData → Ev.R (Option OV)), (∀ s ∈ h, g s.d = .ok (some (f s))) → lcR g (h.map Ship.d) = .ok (h.map f) := fun f g hg => lcR_map _ _ _ hg
  have mc := fun s : Ship => fz_shL (e := cD) (xs := s.cells)
  have mm := fun s : Ship => map_fz_shL (e := cD) (xs := s.cells)
  clear hl nd hc z l0 ha gf
  unfold q__law_answers q__law_answers_0
  decreasing_trivial_pre_omega
  rw [it]
  decreasing_trivial_pre_omega
  rw [lc (fun s => .sh (nD s.n)) _ fun s h1 => by
    have a := law_cells_q (hs s h1)
    have b := len_cells s
    have c : dLen (fz (shL cD s.cells)) = some (.sh (.int (s.n : Nat))) := by rw [mc, dLen_list, List.length_map, len_cells]
    rw [mc] at c
    clear hs lc hL h1
    get_elem_tactic_trivial]
  decreasing_trivial_pre_omega
  rw [s1, z1]
  decreasing_trivial_pre_omega
  rw [lc (fun s => shL cD s.cells) _ fun s h1 => by
    have a := law_cells_q (hs s h1)
    clear hs lc hL h1
    get_elem_tactic_trivial]
  decreasing_trivial_pre_omega
  rw [z2]
  decreasing_trivial_pre_omega
  rw [s0, hL]
  decreasing_trivial_pre_omega
theorem near_self (u : Rule) (p : Cell) : near u p p = true := by
  unfold near ab
  rw [Int.sub_self, Int.sub_self]
  cases u <;> decide +kernel
theorem keep_apart {u : Rule} {s t : Ship} (h : keepB u s t = true) : ∀ p ∈ s.cells, p ∉ t.cells := fun p hp hq => by
  unfold keepB at h
  rw [List.all_eq_true] at h
  have := h p hp
  rw [List.all_eq_true] at this
  have := this p hq
  rw [near_self] at this
  cases this
theorem allH_keep {R C : Nat} {u : Rule} : ∀ (fleet : List Nat) (h : Hid), h ∈ allH R C u fleet → h.Pairwise fun s t => keepB u s t = true := by
  suffices hs : ∀ n (f : List Nat), f.length = n → ∀ h, h ∈ allH R C u f → h.Pairwise fun s t => keepB u s t = true from fun f h hh => hs _ f rfl h hh
  intro n
  induction n with
  | zero => intro f hf h hh; have := List.eq_nil_of_length_eq_zero hf; subst this; simp [allH] at hh; subst hh; exact .nil
  | succ n ih =>
    intro f hf h hh
    have hne : f ≠ [] := fun e => by rw [e] at hf; cases hf
    obtain ⟨g, l, rfl⟩ : ∃ g l, f = g ++ [l] := ⟨f.dropLast, f.getLast hne, (List.dropLast_concat_getLast hne).symm⟩
    rw [List.length_append, List.length_singleton] at hf
    rw [allH_snoc] at hh
    unfold extH at hh
    simp only [List.mem_flatMap, List.mem_map, List.mem_filter] at hh
    obtain ⟨h0, hh0, s, ⟨hs, ok⟩, rfl⟩ := hh
    rw [List.pairwise_append]
    refine ⟨ih g (by omega) h0 hh0, List.pairwise_singleton _ _, fun t ht z hz => ?_⟩
    rw [List.mem_singleton.mp hz]
    unfold okNext at ok
    rw [Bool.and_eq_true, List.all_eq_true] at ok
    exact ok.2 t ht
theorem on_inB {R C : Nat} (hR : R ≤ 8) (hC : C ≤ 8) {p : Cell} (h : onB R C p = true) : InB p := by
  rw [onB_iff] at h
  unfold InB
  omega
theorem ship_inB {R C l : Nat} (hl : 1 ≤ l) (h1000 : l ≤ 1000) (hR : R ≤ 8) (hC : C ≤ 8) {s : Ship} (h : s ∈ ships R C l) : s.inB ∧ ∀ p ∈ s.cells, onB R C p = true := by
  rw [mem_ships hl] at h
  obtain ⟨h1, h2⟩ := h
  unfold Ship.ok Ship.on at h2
  rw [Bool.and_eq_true, List.all_eq_true] at h2
  exact ⟨⟨by omega, fun p hp => on_inB hR hC (h2.2 p hp)⟩, h2.2⟩
structure GoodH (R C : Nat) (h : Hid) : Prop where
  inB : ∀ s ∈ h, s.inB
  on : ∀ s ∈ h, ∀ p ∈ s.cells, onB R C p = true
  apart : Apart h
  len : h.length ≤ 3
theorem Game.good {R C : Nat} {u : Rule} {fleet : List Nat} (g : Game R C fleet) {h : Hid} (hh : h ∈ allH R C u fleet) : GoodH R C h := by
  have hm := allH_mem fleet h hh
  have sb : ∀ s ∈ h, s.inB ∧ ∀ p ∈ s.cells, onB R C p = true := fun s hs => by
    obtain ⟨l, hl, hsl⟩ := hm s hs
    have := g.fl l hl
    exact ship_inB this.1 (by omega) (by have := g.r8; omega) (by have := g.c8; omega) hsl
  refine ⟨fun s hs => (sb s hs).1, fun s hs => (sb s hs).2, (allH_keep fleet h hh).imp fun {s t} k => keep_apart k, ?_⟩
  have := congrArg List.length (allH_ns fleet h hh)
  rw [List.length_map] at this
  have := g.f3
  omega
theorem GoodH.law {R C : Nat} {h : Hid} (g : GoodH R C h) {cs : List Cell} (nd : cs.Nodup) (hl : cs.length ≤ 1000) : q__law_answers [hD h, .list (cs.map cD)] = .ok (shL Ans.d (ansL h [] cs)) := law_answers_q (fun s hs => (g.inB s hs).1) g.apart (by have := g.len; omega) nd hl
theorem zip_fst : ∀ {cs : List Cell} {as : List Ans}, cs.length = as.length → (cs.zip as).map (·.1) = cs
  | [], [], _ => rfl
  | c :: cs, a :: as, h => by rw [List.zip_cons_cons, List.map_cons, zip_fst (by simpa using h)]
theorem zip_snd : ∀ {cs : List Cell} {as : List Ans}, cs.length = as.length → (cs.zip as).map (·.2) = as
  | [], [], _ => rfl
  | c :: cs, a :: as, h => by rw [List.zip_cons_cons, List.map_cons, zip_snd (by simpa using h)]
structure RecOk (R C : Nat) (r : Rec) : Prop where
  nodup : (r.map (·.1)).Nodup
  on : ∀ q ∈ r, onB R C q.1 = true
  len : r.length ≤ 100
theorem RecOk.inB {R C : Nat} {fleet : List Nat} (g : Game R C fleet) {r : Rec} (h : RecOk R C r) : ∀ q ∈ r, InB q.1 := fun q hq => on_inB (by have := g.r8; omega) (by have := g.c8; omega) (h.on q hq)
structure GameW (R C : Nat) (u : Rule) (fleet : List Nat) : Prop where
  r1 : 1 ≤ R
  c1 : 1 ≤ C
  r8 : R ≤ 8
  c8 : C ≤ 8
  f3 : fleet.length ≤ 3
  fl : ∀ l ∈ fleet, 1 ≤ l ∧ l ≤ 8
  few : ∀ k, k ≤ fleet.length → (allH R C u (fleet.take k)).length ≤ 20000
theorem Game.w {R C : Nat} {u : Rule} {fleet : List Nat} (g : Game R C fleet) : GameW R C u fleet where
  r1 := g.r1
  c1 := g.c1
  r8 := Nat.le_trans g.r8 (by decide)
  c8 := Nat.le_trans g.c8 (by decide)
  f3 := g.f3
  fl := fun l hl => ⟨(g.fl l hl).1, Nat.le_trans (g.fl l hl).2 (by decide)⟩
  few := fun k hk => by
    have h := allH_len (R := R) (C := C) (u := u) (fleet.take k)
    have h1 : 1 ≤ R * (C * 2) := Nat.mul_pos g.r1 (Nat.mul_pos g.c1 (by decide))
    have h2 : (R * (C * 2)) ^ (fleet.take k).length ≤ (R * (C * 2)) ^ fleet.length := Nat.pow_le_pow_right h1 (by rw [List.length_take]; omega)
    have := g.few
    omega
section
variable {R C : Nat} {u : Rule} {fleet : List Nat}
theorem GameW.lt (g : GameW R C u fleet) (k : Nat) (hk : k ≤ fleet.length) : (allH R C u (fleet.take k)).length < sizeLine := by
  have := g.few k hk
  rw [sizeLine_eq]; omega
theorem GameW.le (g : GameW R C u fleet) : (allH R C u fleet).length ≤ 20000 := by
  have := g.few fleet.length (Nat.le_refl _)
  rwa [List.take_length] at this
theorem GameW.law_q (g : GameW R C u fleet) : q__law_all [cD (R, C), fD fleet, u.d] = .ok (shL hD (allH R C u fleet)) :=
  law_all_q g.r8 g.c8 (fun l hl => by have := (g.fl l hl).2; omega) (by have := g.f3; omega) g.lt
theorem GameW.good (g : GameW R C u fleet) {h : Hid} (hh : h ∈ allH R C u fleet) : GoodH R C h := by
  have hm := allH_mem fleet h hh
  have sb : ∀ s ∈ h, s.inB ∧ ∀ p ∈ s.cells, onB R C p = true := fun s hs => by
    obtain ⟨l, hl, hsl⟩ := hm s hs
    have := g.fl l hl
    exact ship_inB this.1 (by omega) g.r8 g.c8 hsl
  refine ⟨fun s hs => (sb s hs).1, fun s hs => (sb s hs).2, (allH_keep fleet h hh).imp fun {s t} k => keep_apart k, ?_⟩
  have := congrArg List.length (allH_ns fleet h hh)
  rw [List.length_map] at this
  have := g.f3
  omega
end
inductive Ref | hiding | number | many | cell | shot | nothing | counts | over | text | row
  deriving DecidableEq
def Ref.w : Ref → Str
  | .hiding => "hiding" | .number => "number" | .many => "many" | .cell => "cell" | .shot => "shot" | .nothing => "nothing" | .counts => "counts" | .over => "over" | .text => "text" | .row => "row"
def Ref.cls : Ref → Str
  | .hiding => "NoHiding" | .number => "NoNumber" | .many => "TooMany" | .cell => "NoCell" | .shot => "NoShot" | .nothing => "NothingLeft" | .counts => "NoCounts" | .over => "Over" | .text => "NoText" | .row => "NoRow"
def Ref.bs (r : Ref) : List Bool := ([Ref.hiding, .number, .many, .cell, .shot, .nothing, .counts, .over, .text, .row].map fun z => decide (z = r)) ++ [true]
theorem Ref.mem (r : Ref) : r.cls ∈ excNames := by cases r <;> decide
theorem Ref.flags (r : Ref) : flagsL r.cls = r.bs := by cases r <;> decide +kernel
theorem Ref.flagsO (r : Ref) : Ev.flagsO r.cls = shL .bool r.bs := by
  unfold Ev.flagsO shL
  rw [r.flags]
theorem EqE.hid : EqE hD 2 := EqE.ship.tup
section
variable {R C : Nat} {u : Rule} {fleet : List Nat}
end
theorem gLe_ship {s t : Ship} : gLe (.sh s.d) (.sh t.d) = some (.sh (.bool (!t.lt s))) := by
  have a1 := EqE.ship.shaped (by decide) s
  have a2 := EqE.ship.shaped (by decide) t
  have e : ∀ (x y : Ship), gLe (.sh x.d) (.sh y.d) = if PySem.W.alike x.d y.d = true ∧ SeqAt.shaped x.d = true ∧ SeqAt.shaped y.d = true then some (.sh (.bool (!PySem.W.dataLt y.d x.d))) else none := fun x y => by
    unfold gLe gOrd Ship.d
    simp only [fz_sh]
  rw [e, if_pos ⟨ship_alike s t, a1, a2⟩, ship_lt]
def Ordd (u : Rule) (h : Hid) : Prop := ∀ p s, h[p]? = some s → okNext u (h.take p) s = true
theorem snoc_ind {α : Type} {P : List α → Prop} (h0 : P []) (h1 : ∀ l a, P l → P (l ++ [a])) (l : List α) : P l := by
  rw [← List.reverse_reverse l]
  induction l.reverse with
  | nil => exact h0
  | cons a l ih => rw [List.reverse_cons]; exact h1 _ _ ih
theorem mem_allH {R C : Nat} {u : Rule} : ∀ (fleet : List Nat), (∀ l ∈ fleet, 1 ≤ l) → ∀ h : Hid, h ∈ allH R C u fleet ↔ h.map (·.n) = fleet ∧ (∀ s ∈ h, s.ok R C = true) ∧ Ordd u h := by
  refine snoc_ind (P := fun fleet => (∀ l ∈ fleet, 1 ≤ l) → ∀ h : Hid, h ∈ allH R C u fleet ↔ h.map (·.n) = fleet ∧ (∀ s ∈ h, s.ok R C = true) ∧ Ordd u h) ?_ ?_
  ·
    intro _ h
    show h ∈ [[]] ↔ _
    rw [List.mem_singleton]
    constructor
    · rintro rfl
      exact ⟨rfl, by simp, fun p s e => by simp at e⟩
    · rintro ⟨e, _⟩
      exact List.map_eq_nil_iff.mp e
  · intro fleet l ih hl h
    have hl0 : ∀ x ∈ fleet, 1 ≤ x := fun x hx => hl x (List.mem_append_left _ hx)
    have ih := ih hl0
    have hl1 : 1 ≤ l := hl l (by simp)
    rw [allH_snoc]
    unfold extH
    simp only [List.mem_flatMap, List.mem_map, List.mem_filter]
    constructor
    · rintro ⟨h0, m0, s, ⟨ms, ok⟩, rfl⟩
      obtain ⟨e1, e2, e3⟩ := (ih h0).mp m0
      obtain ⟨n1, o1⟩ := (mem_ships hl1).mp ms
      refine ⟨by rw [List.map_append, e1, List.map_cons, List.map_nil, n1], fun t ht => ?_, fun p t hp => ?_⟩
      · rcases List.mem_append.mp ht with ht | ht
        · exact e2 t ht
        · rw [List.mem_singleton.mp ht]; exact o1
      · by_cases c : p < h0.length
        · rw [List.getElem?_append_left c] at hp
          rw [List.take_append_of_le_length (by omega)]
          exact e3 p t hp
        · rw [List.getElem?_append_right (by omega)] at hp
          have : p - h0.length = 0 := by
            by_cases z : p - h0.length = 0
            · exact z
            · obtain ⟨k, hk⟩ := Nat.exists_eq_succ_of_ne_zero z
              rw [hk] at hp; simp at hp
          rw [this] at hp
          cases hp
          have e : p = h0.length := by omega
          rw [e, List.take_append_of_le_length (Nat.le_refl _), List.take_length]
          exact ok
    · rintro ⟨e1, e2, e3⟩
      have hne : h ≠ [] := fun z => by rw [z] at e1; simp at e1
      obtain ⟨h0, s, rfl⟩ : ∃ h0 s, h = h0 ++ [s] := ⟨h.dropLast, h.getLast hne, (List.dropLast_concat_getLast hne).symm⟩
      rw [List.map_append, List.map_cons, List.map_nil] at e1
      obtain ⟨e4, e5⟩ := List.append_inj' e1 rfl
      have e5 : s.n = l := by injection e5
      refine ⟨h0, (ih h0).mpr ⟨e4, fun t ht => e2 t (List.mem_append_left _ ht), fun p t hp => ?_⟩, s, ⟨(mem_ships hl1).mpr ⟨e5, e2 s (by simp)⟩, ?_⟩, rfl⟩
      · have hlt := (List.getElem?_eq_some_iff.mp hp).1
        have := e3 p t (by rw [List.getElem?_append_left hlt]; exact hp)
        rwa [List.take_append_of_le_length (by omega)] at this
      · have := e3 h0.length s (by rw [List.getElem?_append_right (Nat.le_refl _), Nat.sub_self]; rfl)
        rwa [List.take_append_of_le_length (Nat.le_refl _), List.take_length] at this
def toShip : PyData → Ship
  | .tuple [.int a, .int b, .str w, .int l] => ⟨a, b, decide (w = ("along" : Str)), l.toNat⟩
  | _ => ⟨0, 0, true, 0⟩
theorem toShip_d (s : Ship) : toShip s.d = s := by
  obtain ⟨r, c, al, n⟩ := s
  show (⟨r, c, decide (wayS al = ("along" : Str)), ((n : Nat) : Int).toNat⟩ : Ship) = _
  rw [way_along, Int.toNat_natCast]
theorem shipB_to {R C : Int} {d : PyData} (h : shipB R C d = true) : d = (toShip d).d ∧ 1 ≤ (toShip d).n ∧ (toShip d).n ≤ 8 ∧ (toShip d).ok R C = true := by
  unfold shipB at h
  split at h
  · rename_i a b w l
    simp only [Bool.and_eq_true, Bool.or_eq_true, decide_eq_true_eq, Bool.not_eq_true', Bool.and_eq_false_iff, decide_eq_false_iff_not] at h
    obtain ⟨hw, ha, hb, hl, h1, ho⟩ := h
    obtain ⟨a, rfl⟩ := whole_int ha
    obtain ⟨b, rfl⟩ := whole_int hb
    obtain ⟨l, rfl, l1, l8⟩ := side_int hl
    have el : (((l.toNat : Nat)) : Int) = l := Int.toNat_of_nonneg (by omega)
    have ew : wayS (decide (w = ("along" : Str))) = w := by
      rcases hw with rfl | rfl <;> decide +kernel
    refine ⟨?_, ?_, ?_, ?_⟩
    · show PyData.tuple [.int a, .int b, .str w, .int l] = .tuple [.int a, .int b, .str (wayS (decide (w = ("along" : Str)))), .int ((l.toNat : Nat) : Int)]
      rw [ew, el]
    · show 1 ≤ l.toNat; omega
    · show l.toNat ≤ 8; omega
    · show Ship.ok R C ⟨a, b, decide (w = ("along" : Str)), l.toNat⟩ = true
      unfold Ship.ok
      rw [Bool.and_eq_true]
      refine ⟨?_, ho⟩
      rcases h1 with h1 | h1
      · rw [decide_eq_false (show ¬ l.toNat = 1 by simp only [iOf] at h1; omega)]; rfl
      · rcases hw with rfl | rfl
        · rw [decide_eq_true (show ("along" : Str) = "along" from rfl)]; simp
        · exact absurd rfl h1
  · cases h
theorem shipB_d {R C : Int} {s : Ship} (h1 : 1 ≤ s.n) (h8 : s.n ≤ 8) : shipB R C s.d = s.ok R C := by
  have a := is_ship_s (R := R) (C := C) h1 h8
  have b := is_ship_q (R := R) (C := C) (EqE.ship.shaped (by decide) s)
  rw [a] at b
  injection b with b
  injection b with b
  injection b with b
  exact b.symm
def itemB (R C : Int) (q : PyData × Nat) : Bool := shipB R C q.1 && decide ((toShip q.1).n = q.2)
theorem item_q {R C : Int} {d : PyData} {l : Nat} (hd : SeqAt.shaped d = true) (x : PyData) : q_is_hiding_2 (cD (R, C)) [d, .int (l : Nat)] x () = if itemB R C (d, l) = true then .next () else .ret (.sh (.bool false)) := by
  have sq := is_ship_q (R := R) (C := C) hd
  unfold itemB
  cases c : shipB R C d with
  | false =>
    rw [c] at sq
    unfold q_is_hiding_2
    get_elem_tactic_trivial
  | true =>
    obtain ⟨e, h1, h8, ho⟩ := shipB_to c
    rw [c] at sq
    generalize toShip d = s at *
    subst e
    have a3 : atI [PyData.int s.r, .int s.c, .str (wayS s.al), .int (s.n : Nat)] 3 = some (.int (s.n : Nat)) := rfl
    have gs : Ev.gSub (.sh s.d) (.sh (.int 3)) = some (.sh (.int (s.n : Nat))) := by unfold Ship.d; rw [gSub_tup, a3]; rfl
    have ge : gEq true (.sh (.int (s.n : Nat))) (.sh (.int (l : Nat))) = some (.sh (.bool (!decide (s.n = l)))) := by
      rw [EqE.nat.eq (by decide) (x := s.n) (y := l) fz_sh fz_sh, Bool.true_xor]
    generalize s.d = sd at *
    clear c hd
    unfold q_is_hiding_2
    by_cases z : s.n = l
    · rw [decide_eq_true z] at *
      get_elem_tactic_trivial
    · rw [decide_eq_false z] at *
      get_elem_tactic_trivial
theorem pairD_f : ∀ (ds : List PyData) (fleet : List Nat), Ev.pairD ds (fleet.map fun n => .int ((n : Nat) : Int)) = (ds.zip fleet).map fun q => .tuple [q.1, .int ((q.2 : Nat) : Int)]
  | [], _ => by simp [Ev.pairD]
  | _ :: _, [] => by simp [Ev.pairD]
  | d :: ds, l :: fl => by rw [List.map_cons, Ev.pairD, pairD_f ds fl]; rfl
theorem later_take {h : Hid} {p : Nat} {s : Ship} (hp : h[p]? = some s) : (∃ t, 0 < p ∧ h[p - 1]? = some t ∧ later (h.take p) s = (decide (t.n ≠ s.n) || t.lt s)) ∨ (p = 0 ∧ later (h.take p) s = true) := by
  have hlt := (List.getElem?_eq_some_iff.mp hp).1
  cases p with
  | zero => exact .inr ⟨rfl, by rw [List.take_zero]; rfl⟩
  | succ p =>
    refine .inl ⟨h[p], by omega, List.getElem?_eq_getElem (by omega), ?_⟩
    have : (h.take (p + 1)).getLast? = some h[p] := by
      rw [List.getLast?_eq_getElem?, List.length_take, Nat.min_eq_left (by omega), List.getElem?_take_of_lt (by omega)]
      exact List.getElem?_eq_getElem (by omega)
    unfold later
    rw [this]
theorem place_q {u : Rule} {h : Hid} {p : Nat} {s : Ship} (hn : ∀ s ∈ h, s.n ≤ 1000) (hp : h[p]? = some s) (hl : h.length ≤ 100) (x : PyData) : q_is_hiding_1 u.d (hD h) [.int (p : Nat), s.d] x () = if okNext u (h.take p) s = true then .next () else .ret (.sh (.bool false)) := by
  have hlt := (List.getElem?_eq_some_iff.mp hp).1
  have a3 : ∀ t : Ship, Ev.gSub (.sh t.d) (.sh (.int 3)) = some (.sh (.int (t.n : Nat))) := fun t => by unfold Ship.d; rw [gSub_tup]; rfl
  have kq : ∀ t ∈ h.take p, q_keep [u.d, s.d, t.d] = .ok (.sh (.bool (keepB u s t))) := fun t ht => keep_q (hn s (List.mem_of_getElem? hp)) (hn t (List.mem_of_mem_take ht))
  have lc : ∀ F : PyData → Ev.R (Option OV), (∀ t ∈ h.take p, F t.d = .ok (some (.sh (.bool (keepB u s t))))) → lcR F ((h.take p).map Ship.d) = .ok ((h.take p).map fun t => .sh (.bool (keepB u s t))) := fun F hF => lcR_map Ship.d _ _ hF
  have lc := lc (fun x => Ev.R.bind (q_keep [u.d, s.d, x]) fun o => .ok (some o)) fun t ht => by rw [kq t ht]; rfl
  have al := all_q (fun t => keepB u s t) (h.take p)
  have fzb : fz (.lst ((h.take p).map fun t => OV.sh (.bool (keepB u s t)))) = .list ((h.take p).map fun t => .bool (keepB u s t)) := shl_bools _ _
  have sz : ∀ x : OV, szR ((h.take p).map fun t => OV.sh (PyData.bool (keepB u s t))).length x = .ok x := fun x => szR_ok (by rw [List.length_map, List.length_take, sizeLine_eq]; omega)
  have sl : gSl (.sh (hD h)) none (some (p : Nat)) = some (.sh (.tuple ((h.take p).map Ship.d))) := by
    unfold gSl hD
    simp only [fz_sh]
    rw [cut_to, List.map_take]
  have fin : okNext u (h.take p) s = (later (h.take p) s && (h.take p).all fun t => keepB u s t) := by
    unfold okNext
    congr 1
    apply Bool.eq_iff_iff.mpr
    simp only [List.all_eq_true]
    exact ⟨fun k t ht => by rw [keepB_comm]; exact k t ht, fun k t ht => by rw [keepB_comm]; exact k t ht⟩
  rw [fin]
  rcases later_take hp with ⟨t, p0, ht, lt⟩ | ⟨rfl, lt⟩
  · rw [lt]
    have gt : gGt (.sh (.int (p : Nat))) (.sh (.int 0)) = some (.sh (.bool true)) := by
      unfold gGt
      rw [gOrd_int]
      congr 3
      exact decide_eq_true (by omega)
    have gp : Ev.gSub (.sh (hD h)) (.sh (.int ((p : Nat) - 1))) = some (.sh t.d) := by
      unfold hD
      rw [gSub_tup, show ((p : Nat) : Int) - 1 = ((p - 1 : Nat) : Int) by omega, atI_nat (by rw [List.getElem?_map, ht]; rfl)]
      rfl
    have ge : gEq false (.sh (.int (s.n : Nat))) (.sh (.int (t.n : Nat))) = some (.sh (.bool (decide (s.n = t.n)))) := by
      rw [EqE.nat.eq (by decide) (x := s.n) (y := t.n) fz_sh fz_sh, Bool.false_xor]
    have le := gLe_ship (s := s) (t := t)
    have en : decide (t.n ≠ s.n) = !decide (s.n = t.n) := by
      by_cases z : s.n = t.n
      · simp [z]
      · simp [z, Ne.symm z]
    rw [en]
    have ai := a3 s
    have at' := a3 t
    generalize (h.take p).all (fun t => keepB u s t) = K at *
    generalize List.map (fun t => OV.sh (PyData.bool (keepB u s t))) (List.take p h) = KL at *
    generalize decide (s.n = t.n) = e1 at *
    generalize t.lt s = e2 at *
    clear kq hn hl hlt fin lt a3 ht hp en
    unfold q_is_hiding_1
    cases e1 <;> cases e2 <;> cases K <;> get_elem_tactic_trivial
  · rw [lt]
    have gt : gGt (.sh (.int ((0 : Nat) : Int))) (.sh (.int 0)) = some (.sh (.bool false)) := by
      unfold gGt
      rw [gOrd_int]; rfl
    generalize (h.take 0).all (fun t => keepB u s t) = K at *
    generalize List.map (fun t => OV.sh (PyData.bool (keepB u s t))) (List.take 0 h) = KL at *
    rw [show ((0 : Nat) : Int) = 0 from rfl] at *
    clear kq hn hl hlt fin lt a3 hp
    unfold q_is_hiding_1
    cases K <;> get_elem_tactic_trivial
theorem depthMem : ∀ {ds : List PyData} {z : PyData}, z ∈ ds → z.depth ≤ PyData.depthAll ds
  | [], _, h => by cases h
  | d :: ds, z, h => by
    rw [PyData.depthAll]
    rcases List.mem_cons.mp h with rfl | h
    · omega
    · have := depthMem h
      omega
theorem Gd.of_tup {n : Nat} {ds : List PyData} (h : Gd n (.tuple ds)) : ∀ d ∈ ds, Gd n d := fun d hd => by
  obtain ⟨h1, h2⟩ := h
  rw [PyData.canLay0] at h1
  refine ⟨canLayAll_mem h1 d hd, ?_⟩
  have := depthMem hd
  rw [PyData.depth] at h2
  omega
def hidB (R C : Nat) (u : Rule) (fleet : List Nat) : PyData → Bool
  | .tuple ds => decide (ds.length = fleet.length) && ((ds.zip fleet).all (itemB R C) && (List.range (ds.map toShip).length).all fun p => match (ds.map toShip)[p]? with
    | some s => okNext u ((ds.map toShip).take p) s
    | none => true)
  | _ => false
theorem zip_all {R C : Int} : ∀ {ds : List PyData} {fleet : List Nat}, ds.length = fleet.length → ((ds.zip fleet).all (itemB R C) = true ↔ ds = (ds.map toShip).map Ship.d ∧ (ds.map toShip).map (·.n) = fleet ∧ ∀ s ∈ ds.map toShip, 1 ≤ s.n ∧ s.n ≤ 8 ∧ s.ok R C = true)
  | [], [], _ => by simp
  | [], _ :: _, h => by simp at h
  | _ :: _, [], h => by simp at h
  | d :: ds, l :: fl, h => by
    have ih := zip_all (R := R) (C := C) (ds := ds) (fleet := fl) (by simpa using h)
    simp only [List.zip_cons_cons, List.all_cons, Bool.and_eq_true, ih, List.map_cons, List.cons.injEq, List.mem_cons, forall_eq_or_imp, itemB, decide_eq_true_eq]
    constructor
    · rintro ⟨⟨a, b⟩, c1, c2, c3⟩
      obtain ⟨e, h1, h8, ho⟩ := shipB_to a
      exact ⟨⟨e, c1⟩, ⟨b, c2⟩, ⟨h1, h8, ho⟩, c3⟩
    · rintro ⟨⟨e, c1⟩, ⟨b, c2⟩, ⟨h1, h8, ho⟩, c3⟩
      refine ⟨⟨?_, b⟩, c1, c2, c3⟩
      rw [e, shipB_d h1 h8, ho]
theorem toShips (h : Hid) : (h.map Ship.d).map toShip = h := by
  rw [List.map_map]
  have : (toShip ∘ Ship.d) = id := funext toShip_d
  rw [this, List.map_id]
theorem hidB_iff {R C : Nat} {u : Rule} {fleet : List Nat} (hf : ∀ l ∈ fleet, 1 ≤ l ∧ l ≤ 8) {d : PyData} : hidB R C u fleet d = true ↔ ∃ h ∈ allH R C u fleet, d = hD h := by
  have ord : ∀ h : Hid, ((List.range h.length).all fun p => match h[p]? with | some s => okNext u (h.take p) s | none => true) = true ↔ Ordd u h := fun h => by
    simp only [List.all_eq_true, List.mem_range]
    constructor
    · intro k p s hp
      have := k p (List.getElem?_eq_some_iff.mp hp).1
      rwa [hp] at this
    · intro k p hp
      rw [List.getElem?_eq_getElem hp]
      exact k p _ (List.getElem?_eq_getElem hp)
  constructor
  · intro h
    unfold hidB at h
    split at h
    · rename_i ds
      simp only [Bool.and_eq_true, decide_eq_true_eq] at h
      obtain ⟨h1, h2, h3⟩ := h
      obtain ⟨e1, e2, e3⟩ := (zip_all h1).mp h2
      refine ⟨ds.map toShip, (mem_allH fleet (fun l hl => (hf l hl).1) _).mpr ⟨e2, fun s hs => (e3 s hs).2.2, (ord _).mp h3⟩, ?_⟩
      unfold hD
      rw [← e1]
    · cases h
  · rintro ⟨h, hm, rfl⟩
    obtain ⟨e1, e2, e3⟩ := (mem_allH fleet (fun l hl => (hf l hl).1) _).mp hm
    have hl : (h.map Ship.d).length = fleet.length := by rw [← e1, List.length_map, List.length_map]
    unfold hD hidB
    simp only [Bool.and_eq_true, decide_eq_true_eq]
    refine ⟨hl, (zip_all hl).mpr ?_, ?_⟩
    · rw [toShips]
      refine ⟨rfl, e1, fun s hs => ?_⟩
      have : s.n ∈ fleet := by rw [← e1]; exact List.mem_map.mpr ⟨s, hs, rfl⟩
      exact ⟨(hf _ this).1, (hf _ this).2, e2 s hs⟩
    · rw [toShips]
      exact (ord h).mpr e3
theorem enR_tup {α : Type} (e : α → PyData) (xs : List α) : enR (.sh (.tuple (xs.map e))) = .ok ((xs.zipIdx 0).map fun q => .tuple [.int (q.2 : Nat), e q.1]) := by
  unfold enR
  rw [fz_sh]
  show Ev.R.ok (enumD 0 (xs.map e)) = _
  rw [enum_map]
theorem is_hiding_q {R C : Nat} {u : Rule} {fleet : List Nat} (hfl : fleet.length ≤ 100) {d : PyData} {n : Nat} (hd : Gd n d) (hn : n ≤ 60) : q_is_hiding [cD (R, C), fD fleet, u.d, d] = .ok (.sh (.bool (hidB R C u fleet d))) := by
  have nd := hd.noD
  by_cases ht : ∃ ds, d = .tuple ds
  · obtain ⟨ds, rfl⟩ := ht
    have gi : gIsi "tuple" [.sh (.tuple ds)] = some (.sh (.bool true)) := by rw [gIsi_sh nd]; rfl
    have dl : dLen (.tuple ds) = some (.sh (.int (ds.length : Nat))) := dLen_tup
    have df : dLen (fD fleet) = some (.sh (.int (fleet.length : Nat))) := by rw [dLen_tup, List.length_map]
    have ge : gEq true (.sh (.int (ds.length : Nat))) (.sh (.int (fleet.length : Nat))) = some (.sh (.bool (!decide (ds.length = fleet.length)))) := by
      rw [EqE.nat.eq (by decide) (x := ds.length) (y := fleet.length) fz_sh fz_sh, Bool.true_xor]
    have gd := hd.of_tup
    have zp : zipR [.sh (.tuple ds), .sh (fD fleet)] = .ok ((ds.zip fleet).map fun q => .tuple [q.1, .int ((q.2 : Nat) : Int)]) := by
      unfold zipR
      simp only [fz_sh, pairD_f]
    have l1 : forO ((ds.zip fleet).map fun q => .tuple [q.1, .int ((q.2 : Nat) : Int)]) (fun x s => O.bind (O.of (unT 2 x)) fun t => q_is_hiding_2 (cD (R, C)) t x s) () = if (ds.zip fleet).all (itemB R C) = true then .next () else .ret (.sh (.bool false)) :=
      forO_all (fun q : PyData × Nat => .tuple [q.1, .int ((q.2 : Nat) : Int)]) (itemB R C) _ fun q hq => by
        have := item_q (R := R) (C := C) (l := q.2) ((gd q.1 (List.of_mem_zip hq).1).shaped (by omega)) (.tuple [q.1, .int ((q.2 : Nat) : Int)])
        simp only [unT_l2, O.of_ok, O.bind_next, this]
    by_cases hl : ds.length = fleet.length
    · rw [decide_eq_true hl] at ge
      by_cases hz : (ds.zip fleet).all (itemB R C) = true
      · obtain ⟨e1, e2, e3⟩ := (zip_all hl).mp hz
        have hb : hidB R C u fleet (.tuple ds) = (List.range (ds.map toShip).length).all fun p => match (ds.map toShip)[p]? with
            | some s => okNext u ((ds.map toShip).take p) s
            | none => true := by
          simp only [hidB, hz, decide_eq_true hl, Bool.true_and]
        rw [hb]
        generalize hh : ds.map toShip = h at *
        have en := enR_tup Ship.d h
        have hlen : h.length ≤ 100 := by rw [← hh, List.length_map, hl]; exact hfl
        have l2 : forO ((h.zipIdx 0).map fun q => .tuple [.int (q.2 : Nat), q.1.d]) (fun x s => O.bind (O.of (unT 2 x)) fun t => q_is_hiding_1 u.d (hD h) t x s) () = if (h.zipIdx 0).all (fun q => okNext u (h.take q.2) q.1) = true then .next () else .ret (.sh (.bool false)) :=
          forO_all (fun q : Ship × Nat => .tuple [.int (q.2 : Nat), q.1.d]) (fun q => okNext u (h.take q.2) q.1) _ fun q hq => by
            have hq2 := List.mem_zipIdx_iff_getElem?.mp hq
            have := place_q (u := u) (h := h) (p := q.2) (s := q.1) (fun s hs => by have := (e3 s hs).2.1; omega) hq2 hlen (.tuple [.int (q.2 : Nat), q.1.d])
            simp only [unT_l2, O.of_ok, O.bind_next, this]
        have al : ((h.zipIdx 0).all fun q => okNext u (h.take q.2) q.1) = (List.range h.length).all fun p => match h[p]? with
            | some s => okNext u (h.take p) s
            | none => true := by
          apply Bool.eq_iff_iff.mpr
          simp only [List.all_eq_true, List.mem_range]
          constructor
          · intro k p hp
            rw [List.getElem?_eq_getElem hp]
            exact k (h[p], p) (List.mem_zipIdx_iff_getElem?.mpr (List.getElem?_eq_getElem hp))
          · rintro k ⟨s, p⟩ hq
            have hq2 : h[p]? = some s := List.mem_zipIdx_iff_getElem?.mp hq
            have := k p (List.getElem?_eq_some_iff.mp hq2).1
            rwa [hq2] at this
        rw [al] at l2
        rw [if_pos hz] at l1
        have ed : PyData.tuple ds = hD h := by unfold hD; rw [← e1]
        rw [← ed] at l2
        rw [← e1] at en
        generalize (List.range h.length).all _ = B at *
        clear hd nd hfl hn gd hz e1 e2 e3 hb hh ed hlen al hl
        unfold q_is_hiding q_is_hiding_0
        cases B <;> get_elem_tactic_trivial
      · have hb : hidB R C u fleet (.tuple ds) = false := by
          rw [Bool.not_eq_true] at hz
          simp only [hidB, hz, Bool.false_and, Bool.and_false]
        rw [hb]
        rw [if_neg hz] at l1
        clear hd nd hfl hn gd hz hb hl
        unfold q_is_hiding q_is_hiding_0
        get_elem_tactic_trivial
    · have hb : hidB R C u fleet (.tuple ds) = false := by
        simp only [hidB, decide_eq_false hl, Bool.false_and]
      rw [decide_eq_false hl] at ge
      rw [hb]
      clear hd nd hfl hn gd hb hl l1 zp
      unfold q_is_hiding q_is_hiding_0
      get_elem_tactic_trivial
  · have gi : gIsi "tuple" [.sh d] = some (.sh (.bool false)) := by
      rw [gIsi_sh nd]
      cases d <;> first | rfl | exact absurd ⟨_, rfl⟩ ht
    have hb : hidB R C u fleet d = false := by
      cases d <;> first | rfl | exact absurd ⟨_, rfl⟩ ht
    rw [hb]
    clear hd hn ht nd hb
    unfold q_is_hiding q_is_hiding_0
    get_elem_tactic_trivial
theorem nodup_flat {α β : Type} {f : α → List β} (key : β → α) : ∀ {xs : List α}, xs.Nodup → (∀ x ∈ xs, (f x).Nodup ∧ ∀ y ∈ f x, key y = x) → (xs.flatMap f).Nodup
  | [], _, _ => by simp
  | x :: xs, n, h => by
    obtain ⟨n1, n2⟩ := List.nodup_cons.mp n
    rw [List.flatMap_cons]
    refine List.nodup_append.mpr ⟨(h x List.mem_cons_self).1, nodup_flat key n2 fun y hy => h y (List.mem_cons_of_mem _ hy), fun a ha b hb e => ?_⟩
    obtain ⟨z, hz, hbz⟩ := List.mem_flatMap.mp hb
    have h1 := (h x List.mem_cons_self).2 a ha
    have h2 := (h z (List.mem_cons_of_mem _ hz)).2 b hbz
    rw [e, h2] at h1
    exact n1 (h1 ▸ hz)
theorem allH_nodup {R C : Nat} {u : Rule} (fleet : List Nat) : (allH R C u fleet).Nodup := by
  refine snoc_ind (P := fun fleet => (allH R C u fleet).Nodup) ?_ ?_ fleet
  · show ([[]] : List Hid).Nodup
    simp
  · intro fleet l ih
    rw [allH_snoc]
    unfold extH
    refine nodup_flat (key := List.dropLast) ih fun h _ => ⟨?_, fun y hy => ?_⟩
    · exact List.Pairwise.map _ (fun a b hab e => hab (by simpa using e)) ((ships_nodup R C l).filter _)
    · obtain ⟨s, _, rfl⟩ := List.mem_map.mp hy
      simp
section
variable {R C : Nat} {u : Rule} {fleet : List Nat}
end
section
variable {R C : Nat} {u : Rule} {fleet : List Nat}
end
def gcells (h : Hid) : List Cell := h.flatMap Ship.cells
theorem Bits.perm {n : Nat} {S T : List Cell} (p : S.Perm T) (h : Bits n S) : Bits n T := fun i => by
  rw [h i]
  apply Bool.eq_iff_iff.mpr
  simp only [List.any_eq_true]
  exact ⟨fun ⟨x, hx, k⟩ => ⟨x, p.mem_iff.mp hx, k⟩, fun ⟨x, hx, k⟩ => ⟨x, p.mem_iff.mpr hx, k⟩⟩
def cnt (rows : List Hid) (p : Cell) : Nat := (rows.filter fun h => decide (p ∈ gcells h)).length
section
variable {R C : Nat} {u : Rule} {fleet : List Nat}
theorem fz_tup {xs : List OV} : fz (.tup xs) = .tuple (xs.map fz) := by rw [fz, fzs_eq]
end
section
variable {R C : Nat} {u : Rule} {fleet : List Nat}
end
end Com
namespace Com
open PySem PySem.Spec L2 Ev
open PyProof.Rows hiding St cnt
local macro_rules | `(tactic| decreasing_trivial_pre_omega) => `(tactic| simp only [fz_tup, ↓XR.bind_ok, ↓XR.bind_exc, ↓OX.bind_next, ↓OX.bind_ret, ↓OX.bind_exc, XR.bind_ok, XR.bind_exc, XR.of_ok, XR.of_exc, OX.bind_next, OX.bind_ret, OX.bind_exc, OX.of_ok, OX.of_exc, OX.lift_next, OX.lift_ret, OX.lift_exc, OX.fin_next, OX.fin_ret, OX.fin_exc, forX_nil, forX_cons, tryX_next, tryX_ret, andX_b, orX_b, mkX_ok, mkX_exc, fz_shL, itR_shL, ownR_shL, dLenP_l, dLenP_t, gIsiP_ll, gIsiP_tt, gIsiP_tl, gIsiP_lt, raiseO_s, raiseKO_s, tryO_next, tryO_ret, tryO_stk, gSubO_eq, orP_some, ↓R.bind_ok, ↓R.bind_exc, ↓R.bind_stk, ↓O.bind_next, ↓O.bind_ret, ↓O.bind_exc, ↓O.bind_stk, R.bind_ok, R.bind_exc, R.bind_stk, O.bind_next, O.bind_ret, O.bind_exc, O.bind_stk, O.of_ok, O.of_exc, O.of_stk, O.fin_next, O.fin_ret, O.fin_exc, ofOR_some, ofPR_some, toBR_b, andR_b, orR_b, chR_b, iR_i, noX_ok, szR_lit, Option.isSome_some, Option.isSome_none, mutR_app, mutR_some, ownR_lst, ownR_dk, ownR_dt, itR_tup, itR_list, itR_lst, unT_l2, unT_l3, unT_l4, unT_l5, unT_l6, unT_l7, unL_l2, unL_l3, unL_l4, unL_l5, unL_l6, unL_l7, nd0, nd1, nd2, nd3, nd4, nd5, nd6, par2R_ok, gAdd_int, gII_ok, gI_int, gOrd_int, gEq_int, fz_sh, fz_lst, gNot_b, g1, g1_one, gi_int_none, gi_int_bool, gi_int_int, gi_int_str, gi_int_list, gi_int_tuple, gi_bool_none, gi_bool_bool, gi_bool_int, gi_bool_str, gi_bool_list, gi_bool_tuple, gi_str_none, gi_str_bool, gi_str_int, gi_str_str, gi_str_list, gi_str_tuple, gi_list_none, gi_list_bool, gi_list_int, gi_list_str, gi_list_list, gi_list_tuple, gi_tuple_none, gi_tuple_bool, gi_tuple_int, gi_tuple_str, gi_tuple_list, gi_tuple_tuple, gMax_two, mApp_ok, ownT_lst, dLen_list, dLen_tup, gSub_list, gSub_tup, gSub_lst, atI_l0, atI_l1, atI_l2, atI_l3, atI_l4, atI_l5, atI_l6, Option.map_some, dInt_b, dInt_i, dAbs_i, List.map_cons, List.map_nil, List.cons_append, List.nil_append, if_true, if_false, Bool.false_eq_true, decide_true, decide_false, Bool.false_xor, Bool.true_xor, decide_eq_true_eq, List.length_cons, List.length_nil, nl0, nl1, nl2, nl3, nl4, nl5, nl6, nl7, nl8, nl9, nl10, nl11, nl12, nl13, nl14, nl15, nl16, nl17, nl18, nl19, nl20, Nat.reduceAdd, Nat.reduceSub, Nat.reduceMul, Int.reduceLT, Int.reduceEq, Int.reduceSub, Int.reduceAdd, Int.reduceNeg, Int.reduceLE, Int.reduceMul, Int.reduceToNat, sz_le, sz_lt, Nat.reduceLeDiff, Nat.reduceLT, Bool.not_true, Bool.not_false, Bool.true_and, Bool.and_true, Bool.false_and, Bool.and_false, Bool.true_or, Bool.or_true, Bool.false_or, Bool.or_false, rite_and, rite_or, rb_and, rb_or, Bool.decide_eq_true, Bool.decide_and, Bool.decide_or, gAdd_LL, gAdd_Ll, gAdd_lL, gAdd_lst, gAdd_TT, map_sh_fz, map_fz_shL, List.length_map, gEq_bool, eq_self, forO_nil, forO_cons, lcR_nil, rng1R_ok, rng2R_ok])
local macro_rules | `(tactic| get_elem_tactic_trivial) => `(tactic| simp only [fz_tup, ↓XR.bind_ok, ↓XR.bind_exc, ↓OX.bind_next, ↓OX.bind_ret, ↓OX.bind_exc, XR.bind_ok, XR.bind_exc, XR.of_ok, XR.of_exc, OX.bind_next, OX.bind_ret, OX.bind_exc, OX.of_ok, OX.of_exc, OX.lift_next, OX.lift_ret, OX.lift_exc, OX.fin_next, OX.fin_ret, OX.fin_exc, forX_nil, forX_cons, tryX_next, tryX_ret, andX_b, orX_b, mkX_ok, mkX_exc, fz_shL, itR_shL, ownR_shL, dLenP_l, dLenP_t, gIsiP_ll, gIsiP_tt, gIsiP_tl, gIsiP_lt, raiseO_s, raiseKO_s, tryO_next, tryO_ret, tryO_stk, gSubO_eq, orP_some, ↓R.bind_ok, ↓R.bind_exc, ↓R.bind_stk, ↓O.bind_next, ↓O.bind_ret, ↓O.bind_exc, ↓O.bind_stk, R.bind_ok, R.bind_exc, R.bind_stk, O.bind_next, O.bind_ret, O.bind_exc, O.bind_stk, O.of_ok, O.of_exc, O.of_stk, O.fin_next, O.fin_ret, O.fin_exc, ofOR_some, ofPR_some, toBR_b, andR_b, orR_b, chR_b, iR_i, noX_ok, szR_lit, Option.isSome_some, Option.isSome_none, mutR_app, mutR_some, ownR_lst, ownR_dk, ownR_dt, itR_tup, itR_list, itR_lst, unT_l2, unT_l3, unT_l4, unT_l5, unT_l6, unT_l7, unL_l2, unL_l3, unL_l4, unL_l5, unL_l6, unL_l7, nd0, nd1, nd2, nd3, nd4, nd5, nd6, par2R_ok, gAdd_int, gII_ok, gI_int, gOrd_int, gEq_int, fz_sh, fz_lst, gNot_b, g1, g1_one, gi_int_none, gi_int_bool, gi_int_int, gi_int_str, gi_int_list, gi_int_tuple, gi_bool_none, gi_bool_bool, gi_bool_int, gi_bool_str, gi_bool_list, gi_bool_tuple, gi_str_none, gi_str_bool, gi_str_int, gi_str_str, gi_str_list, gi_str_tuple, gi_list_none, gi_list_bool, gi_list_int, gi_list_str, gi_list_list, gi_list_tuple, gi_tuple_none, gi_tuple_bool, gi_tuple_int, gi_tuple_str, gi_tuple_list, gi_tuple_tuple, gMax_two, mApp_ok, ownT_lst, dLen_list, dLen_tup, gSub_list, gSub_tup, gSub_lst, atI_l0, atI_l1, atI_l2, atI_l3, atI_l4, atI_l5, atI_l6, Option.map_some, dInt_b, dInt_i, dAbs_i, List.map_cons, List.map_nil, List.cons_append, List.nil_append, if_true, if_false, Bool.false_eq_true, decide_true, decide_false, Bool.false_xor, Bool.true_xor, decide_eq_true_eq, List.length_cons, List.length_nil, nl0, nl1, nl2, nl3, nl4, nl5, nl6, nl7, nl8, nl9, nl10, nl11, nl12, nl13, nl14, nl15, nl16, nl17, nl18, nl19, nl20, Nat.reduceAdd, Nat.reduceSub, Nat.reduceMul, Int.reduceLT, Int.reduceEq, Int.reduceSub, Int.reduceAdd, Int.reduceNeg, Int.reduceLE, Int.reduceMul, Int.reduceToNat, sz_le, sz_lt, Nat.reduceLeDiff, Nat.reduceLT, Bool.not_true, Bool.not_false, Bool.true_and, Bool.and_true, Bool.false_and, Bool.and_false, Bool.true_or, Bool.or_true, Bool.false_or, Bool.or_false, rite_and, rite_or, rb_and, rb_or, Bool.decide_eq_true, Bool.decide_and, Bool.decide_or, gAdd_LL, gAdd_Ll, gAdd_lL, gAdd_lst, gAdd_TT, map_sh_fz, map_fz_shL, List.length_map, gEq_bool, eq_self, forO_nil, forO_cons, lcR_nil, rng1R_ok, rng2R_ok, *])
def skO (sh fl ru rows shots past : PyData) : SO := .ins "Seeker" [("sheet", sh), ("fleet", fl), ("rule", ru), ("rows", rows), ("shots", shots), ("past", past)]
section
variable {μ : List SO} {n k : Nat} {sh fl ru rows shots past : PyData}
variable (h : μ[n]? = some (skO sh fl ru rows shots past))
include h
end
structure SkAt (μ : List SO) (n k : Nat) (R C : Nat) (fleet : List Nat) (u : Rule) (rows : List Hid) (r : Rec) (P : List PyData) : Prop where
  obj : μ[n]? = some (skO (cD (R, C)) (fD fleet) u.d (.list (rows.map hD)) (.list (r.map rD)) (hdl k))
  past : μ[k]? = some (.lst P)
  ne : n ≠ k
  r8 : R ≤ 8
  c8 : C ≤ 8
  good : ∀ h ∈ rows, GoodH R C h
  len : rows.length ≤ 20000
  nd : (r.map (·.1)).Nodup
  on : ∀ q ∈ r, onB R C q.1 = true
  rlen : r.length ≤ 900
  plen : P.length ≤ 100000
theorem SkAt.inB {μ : List SO} {n k R C : Nat} {fleet : List Nat} {u : Rule} {rows : List Hid} {r : Rec} {P : List PyData} (s : SkAt μ n k R C fleet u rows r P) : ∀ q ∈ r, InB q.1 := fun q hq => on_inB s.r8 s.c8 (s.on q hq)
section
variable {μ : List SO} {n k R C : Nat} {fleet : List Nat} {u : Rule} {rows : List Hid} {r : Rec} {P : List PyData}
end
end Com
set_option maxHeartbeats 0
namespace K03
open PySem PySem.Spec L2 Ev Com
open PyProof.Rows hiding St
abbrev N_is_whole : List Str := ["thing"]
theorem sc_is_whole : FnScope N_is_whole ["thing"] (defScope s_is_whole) := ⟨rfl, rfl, rfl, by decide +kernel, rfl, by decide +kernel, by decide +kernel⟩
abbrev N_is_side : List Str := ["thing"]
theorem sc_is_side : FnScope N_is_side ["thing"] (defScope s_is_side) := ⟨rfl, rfl, rfl, by decide +kernel, rfl, by decide +kernel, by decide +kernel⟩
abbrev N_cells_of : List Str := ["ship", "row", "column", "way", "length", "k"]
theorem sc_cells_of : FnScope N_cells_of ["ship"] (defScope s_cells_of) := ⟨rfl, rfl, rfl, by decide +kernel, rfl, by decide +kernel, by decide +kernel⟩
abbrev N_is_on : List Str := ["sheet", "cell"]
theorem sc_is_on : FnScope N_is_on ["sheet", "cell"] (defScope s_is_on) := ⟨rfl, rfl, rfl, by decide +kernel, rfl, by decide +kernel, by decide +kernel⟩
abbrev N_is_ship : List Str := ["sheet", "thing", "row", "column", "way", "length", "cell"]
theorem sc_is_ship : FnScope N_is_ship ["sheet", "thing"] (defScope s_is_ship) := ⟨rfl, rfl, rfl, by decide +kernel, rfl, by decide +kernel, by decide +kernel⟩
abbrev N_reach : List Str := ["rule"]
theorem sc_reach : FnScope N_reach ["rule"] (defScope s_reach) := ⟨rfl, rfl, rfl, by decide +kernel, rfl, by decide +kernel, by decide +kernel⟩
abbrev N_too_near : List Str := ["rule", "one", "other", "rows", "columns", "together", "either"]
theorem sc_too_near : FnScope N_too_near ["rule", "one", "other"] (defScope s_too_near) := ⟨rfl, rfl, rfl, by decide +kernel, rfl, by decide +kernel, by decide +kernel⟩
abbrev N_keep : List Str := ["rule", "one", "other", "first", "second"]
theorem sc_keep : FnScope N_keep ["rule", "one", "other"] (defScope s_keep) := ⟨rfl, rfl, rfl, by decide +kernel, rfl, by decide +kernel, by decide +kernel⟩
abbrev N_is_hiding : List Str := ["sheet", "fleet", "rule", "thing", "ship", "length", "place", "other"]
theorem sc_is_hiding : FnScope N_is_hiding ["sheet", "fleet", "rule", "thing"] (defScope s_is_hiding) := ⟨rfl, rfl, rfl, by decide +kernel, rfl, by decide +kernel, by decide +kernel⟩
abbrev N__law_stir : List Str := ["cell", "k", "number"]
theorem sc__law_stir : FnScope N__law_stir ["cell", "k"] (defScope s__law_stir) := ⟨rfl, rfl, rfl, by decide +kernel, rfl, by decide +kernel, by decide +kernel⟩
abbrev N__law_drawn : List Str := ["cell", "sizes", "found", "rest", "k"]
theorem sc__law_drawn : FnScope N__law_drawn ["cell", "sizes"] (defScope s__law_drawn) := ⟨rfl, rfl, rfl, by decide +kernel, rfl, by decide +kernel, by decide +kernel⟩
abbrev N__law_odd : List Str := ["cell", "way", "digit", "deep", "plain", "parts", "k"]
theorem sc__law_odd : FnScope N__law_odd ["cell"] (defScope s__law_odd) := ⟨rfl, rfl, rfl, by decide +kernel, rfl, by decide +kernel, by decide +kernel⟩
abbrev N__law_cells : List Str := ["ship", "row", "column", "way", "length", "found", "k"]
theorem sc__law_cells : FnScope N__law_cells ["ship"] (defScope s__law_cells) := ⟨rfl, rfl, rfl, by decide +kernel, rfl, by decide +kernel, by decide +kernel⟩
abbrev N__law_ships : List Str := ["sheet", "length", "found", "row", "column"]
theorem sc__law_ships : FnScope N__law_ships ["sheet", "length"] (defScope s__law_ships) := ⟨rfl, rfl, rfl, by decide +kernel, rfl, by decide +kernel, by decide +kernel⟩
abbrev N__law_halo : List Str := ["rule", "ship", "found", "steps", "row", "column", "down", "right"]
theorem sc__law_halo : FnScope N__law_halo ["rule", "ship"] (defScope s__law_halo) := ⟨rfl, rfl, rfl, by decide +kernel, rfl, by decide +kernel, by decide +kernel⟩
abbrev N__law_free : List Str := ["halo", "ground", "one", "cell"]
theorem sc__law_free : FnScope N__law_free ["halo", "ground"] (defScope s__law_free) := ⟨rfl, rfl, rfl, by decide +kernel, rfl, by decide +kernel, by decide +kernel⟩
abbrev N__law_all : List Str := ["sheet", "fleet", "rule", "rows", "place", "length", "ships", "halos", "grounds", "longer", "hiding", "halo", "k", "later", "ship"]
theorem sc__law_all : FnScope N__law_all ["sheet", "fleet", "rule"] (defScope s__law_all) := ⟨rfl, rfl, rfl, by decide +kernel, rfl, by decide +kernel, by decide +kernel⟩
abbrev N__law_game : List Str := ["cell", "way", "rows", "columns", "first", "second", "third", "rule", "sheet", "fleet"]
theorem sc__law_game : FnScope N__law_game ["cell"] (defScope s__law_game) := ⟨rfl, rfl, rfl, by decide +kernel, rfl, by decide +kernel, by decide +kernel⟩
abbrev N__law_played : List Str := ["cell", "sheet", "fleet", "rule", "rows"]
theorem sc__law_played : FnScope N__law_played ["cell"] (defScope s__law_played) := ⟨rfl, rfl, rfl, by decide +kernel, rfl, by decide +kernel, by decide +kernel⟩
abbrev N__law_near : List Str := ["cell", "sheet", "hiding", "way", "at", "other", "row", "column", "length", "odd", "some"]
theorem sc__law_near : FnScope N__law_near ["cell", "sheet", "hiding"] (defScope s__law_near) := ⟨rfl, rfl, rfl, by decide +kernel, rfl, by decide +kernel, by decide +kernel⟩
def b__law_near : Rho → Out :=
  (sCons (sAsg (hTup 7 (hCons (hName 3) (hCons (hName 4) (hCons (hName 5) (hCons (hName 6) (hCons (hName 7) (hCons (hName 8) (hCons (hName 9) hNil)))))))) (eCall m__law_drawn (lCons (eV 0) (lCons (eLst (lCons (cC (.int 9)) (lCons (cC (.int 4)) (lCons (cC (.int 4)) (lCons (cC (.int 9)) (lCons (cC (.int 9)) (lCons (cC (.int 5)) (lCons (cC (.int 8)) lNil)))))))) lNil))))
    (sCons (sSet 10 (eFn (g1 dList) (lCons (eV 2) lNil)))
    (sCons (sSet 4 (eMod (eV 4) (eB1 dLenP 10)))
    (sCons (sSet 5 (eMod (eV 5) (eB1 dLenP 10)))
    (sCons (sIf (eTest (eBin (gEq false) (eV 3) (cC (.int 0)))) (sCons (sAsg (hTup 2 (hCons (hSetIx 10 (eV 4)) (hCons (hSetIx 10 (eV 5)) hNil))) (eTup (lCons (eSubO 10 (eV 5)) (lCons (eSubO 10 (eV 4)) lNil))))
    sNil) (sCons (sIf (eTest (eBin (gEq false) (eV 3) (cC (.int 1)))) (sCons (sSetIx 10 (eBin gAdd (eTup (lCons (eMod (eV 6) (eBin gSub (eV 1) (cC (.int 0)))) (lCons (eMod (eV 7) (eBin gSub (eV 1) (cC (.int 1)))) lNil))) (eSl (eSubO 10 (eV 4)) (some (cC (.int 2))) none)) (eV 4))
    sNil) (sCons (sIf (eTest (eBin (gEq false) (eV 3) (cC (.int 2)))) (sCons (sSetIx 10 (eBin gAdd (eSl (eSubO 10 (eV 4)) none (some (cC (.int 2)))) (eTup (lCons (eBin gSub (eDict [((cC (.str "along")), (cC (.str "down"))), ((cC (.str "down")), (cC (.str "along")))]) (eBin gSub (eSubO 10 (eV 4)) (cC (.int 2)))) (lCons (eBin gSub (eSubO 10 (eV 4)) (cC (.int 3))) lNil)))) (eV 4))
    sNil) (sCons (sIf (eTest (eBin (gEq false) (eV 3) (cC (.int 3)))) (sCons (sSetIx 10 (eSubO 10 (eV 5)) (eV 4))
    sNil) (sCons (sIf (eTest (eBin (gEq false) (eV 3) (cC (.int 4)))) (sCons (sExpr (eMut 10 "list" mPopAt (lCons (eV 4) lNil)))
    sNil) (sCons (sIf (eTest (eBin (gEq false) (eV 3) (cC (.int 5)))) (sCons (sExpr (eMut 10 "list" mIns (lCons (eV 4) (lCons (eSubO 10 (eV 5)) lNil))))
    sNil) (sCons (sIf (eTest (eBin (gEq false) (eV 3) (cC (.int 6)))) (sCons (sSetIx 10 (eBin gAdd (eSl (eSubO 10 (eV 4)) none (some (cC (.int 3)))) (eTup (lCons (eBin gAdd (cC (.int 1)) (eV 8)) lNil))) (eV 4))
    sNil) (sCons (sIf (eTest (eBin (gEq false) (eV 3) (cC (.int 7)))) (sCons (sSetIx 10 (eBin gSub (eLst (lCons (cC .none) (lCons (cC (.int 7)) (lCons (eFn (g1 dList) (lCons (eSubO 10 (eV 4)) lNil)) (lCons (eSl (eSubO 10 (eV 4)) none (some (cC (.int 3)))) (lCons (cC (.str "A")) (lCons (eTup lNil) (lCons (cC (.bool true)) (lCons (eBin gAdd (eSubO 10 (eV 4)) (eTup (lCons (cC (.int 1)) lNil))) lNil))))))))) (eV 9)) (eV 4))
    sNil) (sCons (sRet (eM 10))
    sNil))
    sNil))
    sNil))
    sNil))
    sNil))
    sNil))
    sNil))
    sNil))
    (sCons (sRet (eFn (g1 dTuple) (lCons (eV 10) lNil)))
    sNil))))))
def m__law_near : List PyData → List SO → Rv := runP 11 b__law_near
abbrev N_law : List Str := ["script", "cell", "sheet", "fleet", "rule", "rows", "known", "hiding", "things", "thing", "due", "found", "k"]
theorem sc_law : FnScope N_law ["script"] (defScope s_law) := ⟨rfl, rfl, rfl, by decide +kernel, rfl, by decide +kernel, by decide +kernel⟩
def b_law_1 : Rho → Out :=
  (sCons (sIf (eTest (eBin (gIsB true) (eCall m_is_hiding (lCons (eV 2) (lCons (eV 3) (lCons (eV 4) (lCons (eV 9) lNil))))) (cC (.bool false)))) (sCons (sRet (cC (.bool false)))
    sNil) sNil)
    sNil)
def b_law_2 : Rho → Out :=
  (sCons (sSet 10 (eAnd (eFn (gIsi "tuple") (lCons (eV 9) lNil)) (eBin (gIn false) (eV 9) (eV 5))))
    (sCons (sSet 11 (eCall m_is_hiding (lCons (eV 2) (lCons (eV 3) (lCons (eV 4) (lCons (eV 9) lNil))))))
    (sCons (sIf (bOr (bNot (eTest (eFn (gIsi "bool") (lCons (eV 11) lNil)))) (eTest (eBin (gEq true) (eV 11) (eV 10)))) (sCons (sRet (cC (.bool false)))
    sNil) sNil)
    sNil)))
def b_law_3 : Rho → Out :=
  (sCons (sAsg (hTup 4 (hCons (hName 2) (hCons (hName 3) (hCons (hName 4) (hCons (hName 5) hNil))))) (eCall m__law_played (lCons (eV 1) lNil)))
    (sCons (sSet 6 (eHndX (eLc [7] (iVal (eV 5)) (hName 7) tYesR (eTup (lCons (eV 7) (lCons (cC (.bool true)) lNil))))))
    (sCons (sSet 7 (eBin gSub (eV 5) (eMod (eCall m__law_stir (lCons (eV 1) (lCons (cC (.int 200)) lNil))) (eFn (g1 dLen) (lCons (eV 5) lNil)))))
    (sCons (sSet 8 (eBin gAdd (eLst (lCons (eV 7) lNil)) (eLc [12] (iRange1 (cC (.int 12))) (hName 12) tYesR (eCall m__law_near (lCons (eBin gAdd (eV 1) (eV 12)) (lCons (eV 2) (lCons (eV 7) lNil)))))))
    (sCons (sFor [9, 10, 11] (iVal (eV 8)) (hName 9) b_law_2)
    (sCons (sIf (eTest (eBin (gEq true) (eLenX (eV 6)) (eFn (g1 dLen) (lCons (eV 5) lNil)))) (sCons (sRet (cC (.bool false)))
    sNil) sNil)
    (sCons (sFor [9] (iVal (eLst (lCons (eCall m__law_odd (lCons (eV 1) lNil)) (lCons (eCall m__law_odd (lCons (eBin gAdd (eV 1) (cC (.int 2))) lNil)) (lCons (eV 3) (lCons (eV 2) (lCons (eTup (lCons (eV 7) lNil)) (lCons (eBin gAdd (eV 7) (eV 7)) lNil)))))))) (hName 9) b_law_1)
    sNil)))))))
def b_law : Rho → Out :=
  (sCons (sFor [1, 2, 3, 4, 5, 6, 7, 8, 9, 10, 11, 12] (iVal (eBin gAdd (eLst (lCons (cC (.int 0)) lNil)) (eSl (eV 0) none (some (cC (.int 20)))))) (hName 1) b_law_3)
    (sCons (sRet (cC (.bool true)))
    sNil))
def m_law : List PyData → List SO → Rv := runP 13 b_law
structure Top (K : PySem.W.Frag) (mg : Str → Option Value) : Prop where
  d_is_whole : ∃ (f : Addr) (fd : FuncData), FunD K "is_whole" "is_whole" (defArgs s_is_whole) (defBody s_is_whole) (defScope s_is_whole) [] [] f fd ∧ mg "is_whole" = some (.ref f) ∧ Binds K fd ["thing"] []
  d_is_side : ∃ (f : Addr) (fd : FuncData), FunD K "is_side" "is_side" (defArgs s_is_side) (defBody s_is_side) (defScope s_is_side) [] [] f fd ∧ mg "is_side" = some (.ref f) ∧ Binds K fd ["thing"] []
  d_cells_of : ∃ (f : Addr) (fd : FuncData), FunD K "cells_of" "cells_of" (defArgs s_cells_of) (defBody s_cells_of) (defScope s_cells_of) [] [] f fd ∧ mg "cells_of" = some (.ref f) ∧ Binds K fd ["ship"] []
  d_is_on : ∃ (f : Addr) (fd : FuncData), FunD K "is_on" "is_on" (defArgs s_is_on) (defBody s_is_on) (defScope s_is_on) [] [] f fd ∧ mg "is_on" = some (.ref f) ∧ Binds K fd ["sheet", "cell"] []
  d_is_ship : ∃ (f : Addr) (fd : FuncData), FunD K "is_ship" "is_ship" (defArgs s_is_ship) (defBody s_is_ship) (defScope s_is_ship) [] [] f fd ∧ mg "is_ship" = some (.ref f) ∧ Binds K fd ["sheet", "thing"] []
  d_reach : ∃ (f : Addr) (fd : FuncData), FunD K "reach" "reach" (defArgs s_reach) (defBody s_reach) (defScope s_reach) [] [] f fd ∧ mg "reach" = some (.ref f) ∧ Binds K fd ["rule"] []
  d_too_near : ∃ (f : Addr) (fd : FuncData), FunD K "too_near" "too_near" (defArgs s_too_near) (defBody s_too_near) (defScope s_too_near) [] [] f fd ∧ mg "too_near" = some (.ref f) ∧ Binds K fd ["rule", "one", "other"] []
  d_keep : ∃ (f : Addr) (fd : FuncData), FunD K "keep" "keep" (defArgs s_keep) (defBody s_keep) (defScope s_keep) [] [] f fd ∧ mg "keep" = some (.ref f) ∧ Binds K fd ["rule", "one", "other"] []
  d_is_hiding : ∃ (f : Addr) (fd : FuncData), FunD K "is_hiding" "is_hiding" (defArgs s_is_hiding) (defBody s_is_hiding) (defScope s_is_hiding) [] [] f fd ∧ mg "is_hiding" = some (.ref f) ∧ Binds K fd ["sheet", "fleet", "rule", "thing"] []
  d__law_stir : ∃ (f : Addr) (fd : FuncData), FunD K "_law_stir" "_law_stir" (defArgs s__law_stir) (defBody s__law_stir) (defScope s__law_stir) [] [] f fd ∧ mg "_law_stir" = some (.ref f) ∧ Binds K fd ["cell", "k"] []
  d__law_drawn : ∃ (f : Addr) (fd : FuncData), FunD K "_law_drawn" "_law_drawn" (defArgs s__law_drawn) (defBody s__law_drawn) (defScope s__law_drawn) [] [] f fd ∧ mg "_law_drawn" = some (.ref f) ∧ Binds K fd ["cell", "sizes"] []
  d__law_odd : ∃ (f : Addr) (fd : FuncData), FunD K "_law_odd" "_law_odd" (defArgs s__law_odd) (defBody s__law_odd) (defScope s__law_odd) [] [] f fd ∧ mg "_law_odd" = some (.ref f) ∧ Binds K fd ["cell"] []
  d__law_cells : ∃ (f : Addr) (fd : FuncData), FunD K "_law_cells" "_law_cells" (defArgs s__law_cells) (defBody s__law_cells) (defScope s__law_cells) [] [] f fd ∧ mg "_law_cells" = some (.ref f) ∧ Binds K fd ["ship"] []
  d__law_ships : ∃ (f : Addr) (fd : FuncData), FunD K "_law_ships" "_law_ships" (defArgs s__law_ships) (defBody s__law_ships) (defScope s__law_ships) [] [] f fd ∧ mg "_law_ships" = some (.ref f) ∧ Binds K fd ["sheet", "length"] []
  d__law_halo : ∃ (f : Addr) (fd : FuncData), FunD K "_law_halo" "_law_halo" (defArgs s__law_halo) (defBody s__law_halo) (defScope s__law_halo) [] [] f fd ∧ mg "_law_halo" = some (.ref f) ∧ Binds K fd ["rule", "ship"] []
  d__law_free : ∃ (f : Addr) (fd : FuncData), FunD K "_law_free" "_law_free" (defArgs s__law_free) (defBody s__law_free) (defScope s__law_free) [] [] f fd ∧ mg "_law_free" = some (.ref f) ∧ Binds K fd ["halo", "ground"] []
  d__law_all : ∃ (f : Addr) (fd : FuncData), FunD K "_law_all" "_law_all" (defArgs s__law_all) (defBody s__law_all) (defScope s__law_all) [] [] f fd ∧ mg "_law_all" = some (.ref f) ∧ Binds K fd ["sheet", "fleet", "rule"] []
  d__law_game : ∃ (f : Addr) (fd : FuncData), FunD K "_law_game" "_law_game" (defArgs s__law_game) (defBody s__law_game) (defScope s__law_game) [] [] f fd ∧ mg "_law_game" = some (.ref f) ∧ Binds K fd ["cell"] []
  d__law_played : ∃ (f : Addr) (fd : FuncData), FunD K "_law_played" "_law_played" (defArgs s__law_played) (defBody s__law_played) (defScope s__law_played) [] [] f fd ∧ mg "_law_played" = some (.ref f) ∧ Binds K fd ["cell"] []
  d__law_near : ∃ (f : Addr) (fd : FuncData), FunD K "_law_near" "_law_near" (defArgs s__law_near) (defBody s__law_near) (defScope s__law_near) [] [] f fd ∧ mg "_law_near" = some (.ref f) ∧ Binds K fd ["cell", "sheet", "hiding"] []
  d_law : ∃ (f : Addr) (fd : FuncData), FunD K "law" "law" (defArgs s_law) (defBody s_law) (defScope s_law) [] [] f fd ∧ mg "law" = some (.ref f) ∧ Binds K fd ["script"] []
  c_MOST_SIDE : ∃ t : Tok, mg "MOST_SIDE" = some (.int 8 t)
  c_WAYS : ∃ a : Addr, mg "WAYS" = some (.ref a) ∧ ∀ H, SqT K H a ((["along", "down"] : List Str).map V.str)
  n_abs : mg "abs" = none
  n_all : mg "all" = none
  n_bool : mg "bool" = none
  n_dict : mg "dict" = none
  n_enumerate : mg "enumerate" = none
  n_int : mg "int" = none
  n_isinstance : mg "isinstance" = none
  n_len : mg "len" = none
  n_list : mg "list" = none
  n_max : mg "max" = none
  n_min : mg "min" = none
  n_range : mg "range" = none
  n_sorted : mg "sorted" = none
  n_str : mg "str" = none
  n_tuple : mg "tuple" = none
  n_zip : mg "zip" = none
section
variable {P : Program} {w : World} {K : PySem.W.Frag} {mg : Str → Option Value} {base : Heap}
theorem ok_is_whole (D : Top K mg) : FnT P w K mg base "is_whole" 1 1 m_is_whole := by
  obtain ⟨f, fd, F, hm, hb⟩ := D.d_is_whole
  exact fnD_of F sc_is_whole hm hb rfl fun cdv A outer s H E G =>
    (eb_cons (es_ret (ev_and (ev_isi (T := "int") (by rfl) D.n_isinstance (by decide) (pe_bltn (v := .ty "int") (by rfl) D.n_int boot_int rfl) (ev_var (pv 0))) (ev_one (ev_not (ev_isi (T := "bool") (by rfl) D.n_isinstance (by decide) (pe_bltn (v := .ty "bool") (by rfl) D.n_bool boot_bool rfl) (ev_var (pv 0)))))))
    eb_nil)
theorem ok_is_side (D : Top K mg) : FnT P w K mg base "is_side" 2 1 m_is_side := by
  obtain ⟨f, fd, F, hm, hb⟩ := D.d_is_side
  exact fnD_of F sc_is_side hm hb rfl fun cdv A outer s H E G =>
    (eb_cons (es_ret (ev_and (ev_call G (ok_is_whole D) (by decide) (by rfl) (el_cons (ev_var (pv 0)) el_nil) (hfl := (ll_cons ll_nil))) (ev_one (ev_lele G ev_int (ev_var (pv 0)) (ev_gint (by rfl) D.c_MOST_SIDE.choose_spec)))))
    eb_nil)
theorem ok_cells_of (D : Top K mg) : FnT P w K mg base "cells_of" 1 1 m_cells_of := by
  obtain ⟨f, fd, F, hm, hb⟩ := D.d_cells_of
  exact fnD_of F sc_cells_of hm hb rfl fun cdv A outer s H E G =>
    (eb_cons (es_asg (is := [1, 2, 3, 4]) (ev_var (pv 0)) (eg_tup G (egs_cons (eg_name (i := 1) G.nd rfl (by first | exact .inl rfl | exact .inr rfl)) (egs_cons (eg_name (i := 2) G.nd rfl (by first | exact .inl rfl | exact .inr rfl)) (egs_cons (eg_name (i := 3) G.nd rfl (by first | exact .inl rfl | exact .inr rfl)) (egs_cons (eg_name (i := 4) G.nd rfl (by first | exact .inl rfl | exact .inr rfl)) egs_nil))))))
    (eb_cons (es_if (et_cmp (ec_eq G (ev_var (pv 3)) ev_str)) (eb_cons (es_ret (ev_lc (own := [("k", 5)]) G (ei_range1 (by rfl) D.n_range (ev_var (pv 4))) (blkOk_by (N := N_cells_of) (sc := defScope s_cells_of) (own := [("k", 5)]) (by first | decide +kernel | rfl)) (fun s1 H1 C1 cl1 fp1 => (eg_name (i := 5) (G.blk s1 H1 _ _ fp1).nd rfl (by first | exact .inl rfl | exact .inr rfl))) (fun s1 H1 C1 cl1 fp1 => ets_nil) (fun s1 H1 C1 cl1 fp1 => (ev_tup (el_cons (ev_var (pv 1)) (el_cons (ev_add (ev_var (pv 2)) (ev_var (pv 5))) el_nil))))))
    eb_nil) eb_nil)
    (eb_cons (es_ret (ev_lc (own := [("k", 5)]) G (ei_range1 (by rfl) D.n_range (ev_var (pv 4))) (blkOk_by (N := N_cells_of) (sc := defScope s_cells_of) (own := [("k", 5)]) (by first | decide +kernel | rfl)) (fun s1 H1 C1 cl1 fp1 => (eg_name (i := 5) (G.blk s1 H1 _ _ fp1).nd rfl (by first | exact .inl rfl | exact .inr rfl))) (fun s1 H1 C1 cl1 fp1 => ets_nil) (fun s1 H1 C1 cl1 fp1 => (ev_tup (el_cons (ev_add (ev_var (pv 1)) (ev_var (pv 5))) (el_cons (ev_var (pv 2)) el_nil))))))
    eb_nil)))
theorem ok_is_on (D : Top K mg) : FnT P w K mg base "is_on" 1 2 m_is_on := by
  obtain ⟨f, fd, F, hm, hb⟩ := D.d_is_on
  exact fnD_of F sc_is_on hm hb rfl fun cdv A outer s H E G =>
    (eb_cons (es_ret (ev_and (ev_lelt G ev_int (ev_sub_ix G (ev_var (pv 1)) ev_int) (ev_sub_ix G (ev_var (pv 0)) ev_int)) (ev_one (ev_lelt G ev_int (ev_sub_ix G (ev_var (pv 1)) ev_int) (ev_sub_ix G (ev_var (pv 0)) ev_int)))))
    eb_nil)
theorem ok_is_ship (D : Top K mg) : FnT P w K mg base "is_ship" 3 2 m_is_ship := by
  obtain ⟨f, fd, F, hm, hb⟩ := D.d_is_ship
  exact fnD_of F sc_is_ship hm hb rfl fun cdv A outer s H E G =>
    (eb_cons (es_if (et_w (ew_or (et_not (et_val (ev_isi (T := "tuple") (by rfl) D.n_isinstance (by decide) (pe_bltn (v := .ty "tuple") (by rfl) D.n_tuple boot_tuple rfl) (ev_var (pv 1))))) (ew_or (et_cmp (ec_ne G (ev_b (b_len D.n_len) (by rfl) (el_cons (ev_var (pv 1)) el_nil)) ev_int)) (ew_or (et_not (et_val (ev_isi (T := "str") (by rfl) D.n_isinstance (by decide) (pe_bltn (v := .ty "str") (by rfl) D.n_str boot_str rfl) (ev_sub_ix G (ev_var (pv 1)) ev_int)))) (ew_or1 (et_cmp (ec_notin G (ev_sub_ix G (ev_var (pv 1)) ev_int) (ev_gtup (xs := ["along", "down"]) (by rfl) D.c_WAYS.choose_spec.1 D.c_WAYS.choose_spec.2 (by decide))))))))) (eb_cons (es_ret ev_bl)
    eb_nil) eb_nil)
    (eb_cons (es_asg (is := [2, 3, 4, 5]) (ev_var (pv 1)) (eg_tup G (egs_cons (eg_name (i := 2) G.nd rfl (by first | exact .inl rfl | exact .inr rfl)) (egs_cons (eg_name (i := 3) G.nd rfl (by first | exact .inl rfl | exact .inr rfl)) (egs_cons (eg_name (i := 4) G.nd rfl (by first | exact .inl rfl | exact .inr rfl)) (egs_cons (eg_name (i := 5) G.nd rfl (by first | exact .inl rfl | exact .inr rfl)) egs_nil))))))
    (eb_cons (es_if (et_w (ew_or (et_not (et_val (ev_call G (ok_is_whole D) (by decide) (by rfl) (el_cons (ev_var (pv 2)) el_nil) (hfl := (ll_cons ll_nil))))) (ew_or (et_not (et_val (ev_call G (ok_is_whole D) (by decide) (by rfl) (el_cons (ev_var (pv 3)) el_nil) (hfl := (ll_cons ll_nil))))) (ew_or (et_not (et_val (ev_call G (ok_is_side D) (by decide) (by rfl) (el_cons (ev_var (pv 5)) el_nil) (hfl := (ll_cons ll_nil))))) (ew_or1 (et_w (ew_and (et_cmp (ec_eq G (ev_var (pv 5)) ev_int)) (ew_and1 (et_cmp (ec_eq G (ev_var (pv 4)) ev_str)))))))))) (eb_cons (es_ret ev_bl)
    eb_nil) eb_nil)
    (eb_cons (es_ret (ev_b (b_all G.calm D.n_all) (by rfl) (el_cons (ev_lc (own := [("cell", 6)]) G (ei_val (ev_call G (ok_cells_of D) (by decide) (by rfl) (el_cons (ev_var (pv 1)) el_nil) (hfl := (ll_cons ll_nil)))) (blkOk_by (N := N_is_ship) (sc := defScope s_is_ship) (own := [("cell", 6)]) (by first | decide +kernel | rfl)) (fun s1 H1 C1 cl1 fp1 => (eg_name (i := 6) (G.blk s1 H1 _ _ fp1).nd rfl (by first | exact .inl rfl | exact .inr rfl))) (fun s1 H1 C1 cl1 fp1 => ets_nil) (fun s1 H1 C1 cl1 fp1 => (ev_call (G.blk s1 H1 _ _ fp1) (ok_is_on D) (by decide) (by rfl) (el_cons (ev_var (pv 0)) (el_cons (ev_var (pv 6)) el_nil)) (hfl := (ll_cons (ll_cons ll_nil)))))) el_nil)))
    eb_nil))))
theorem ok_reach (D : Top K mg) : FnT P w K mg base "reach" 1 1 m_reach := by
  obtain ⟨f, fd, F, hm, hb⟩ := D.d_reach
  exact fnD_of F sc_reach hm hb rfl fun cdv A outer s H E G =>
    (eb_cons (es_ret (ev_sub_ix G (ev_dict (fps := [((cC (.str "free")), (eTup (lCons (cC (.int 0)) (lCons (cC (.int 0)) lNil)))), ((cC (.str "sides")), (eTup (lCons (cC (.int 1)) (lCons (cC (.int 1)) lNil)))), ((cC (.str "corners")), (eTup (lCons (cC (.int 2)) (lCons (cC (.int 1)) lNil))))]) (pps_cons ev_str (ev_tup (el_cons ev_int (el_cons ev_int el_nil))) (pps_cons ev_str (ev_tup (el_cons ev_int (el_cons ev_int el_nil))) (pps_cons ev_str (ev_tup (el_cons ev_int (el_cons ev_int el_nil))) pps_nil))) rfl rfl (by intro h; cases h) (by decide)) (ev_var (pv 0))))
    eb_nil)
theorem ok_too_near (D : Top K mg) : FnT P w K mg base "too_near" 2 3 m_too_near := by
  obtain ⟨f, fd, F, hm, hb⟩ := D.d_too_near
  exact fnD_of F sc_too_near hm hb rfl fun cdv A outer s H E G =>
    (eb_cons (es_par (i := 3) (j := 4) G G.nd rfl rfl (by decide) rfl rfl (el_cons (ev_b (b_abs D.n_abs) (by rfl) (el_cons (ev_sub (ev_sub_ix G (ev_var (pv 1)) ev_int) (ev_sub_ix G (ev_var (pv 2)) ev_int)) el_nil)) (el_cons (ev_b (b_abs D.n_abs) (by rfl) (el_cons (ev_sub (ev_sub_ix G (ev_var (pv 1)) ev_int) (ev_sub_ix G (ev_var (pv 2)) ev_int)) el_nil)) el_nil)))
    (eb_cons (es_asg (is := [5, 6]) (ev_call G (ok_reach D) (by decide) (by rfl) (el_cons (ev_var (pv 0)) el_nil) (hfl := (ll_cons ll_nil))) (eg_tup G (egs_cons (eg_name (i := 5) G.nd rfl (by first | exact .inl rfl | exact .inr rfl)) (egs_cons (eg_name (i := 6) G.nd rfl (by first | exact .inl rfl | exact .inr rfl)) egs_nil))))
    (eb_cons (es_ret (ev_and (ee_cmp (ec_le G (ev_add (ev_var (pv 3)) (ev_var (pv 4))) (ev_var (pv 5)))) (ev_one (ee_cmp (ec_le G (ev_b (b_max G.calm D.n_max) (by rfl) (el_cons (ev_var (pv 3)) (el_cons (ev_var (pv 4)) el_nil))) (ev_var (pv 6)))))))
    eb_nil)))
theorem ok_keep (D : Top K mg) : FnT P w K mg base "keep" 3 3 m_keep := by
  obtain ⟨f, fd, F, hm, hb⟩ := D.d_keep
  exact fnD_of F sc_keep hm hb rfl fun cdv A outer s H E G =>
    (eb_cons (es_for (is := [3]) [3, 4] G (ei_val (ev_call G (ok_cells_of D) (by decide) (by rfl) (el_cons (ev_var (pv 1)) el_nil) (hfl := (ll_cons ll_nil)))) (eg_name (i := 3) G.nd rfl (by first | exact .inl rfl | exact .inr rfl)) (eb_cons (es_for (is := [4]) [4] G (ei_val (ev_call G (ok_cells_of D) (by decide) (by rfl) (el_cons (ev_var (pv 2)) el_nil) (hfl := (ll_cons ll_nil)))) (eg_name (i := 4) G.nd rfl (by first | exact .inl rfl | exact .inr rfl)) (eb_cons (es_if (et_val (ev_call G (ok_too_near D) (by decide) (by rfl) (el_cons (ev_var (pv 0)) (el_cons (ev_var (pv 3)) (el_cons (ev_var (pv 4)) el_nil))) (hfl := (ll_cons (ll_cons (ll_cons ll_nil)))))) (eb_cons (es_ret ev_bl)
    eb_nil) eb_nil)
    eb_nil))
    eb_nil))
    (eb_cons (es_ret ev_bl)
    eb_nil))
theorem ok_is_hiding (D : Top K mg) : FnT P w K mg base "is_hiding" 4 4 m_is_hiding := by
  obtain ⟨f, fd, F, hm, hb⟩ := D.d_is_hiding
  exact fnD_of F sc_is_hiding hm hb rfl fun cdv A outer s H E G =>
    (eb_cons (es_if (et_w (ew_or (et_not (et_val (ev_isi (T := "tuple") (by rfl) D.n_isinstance (by decide) (pe_bltn (v := .ty "tuple") (by rfl) D.n_tuple boot_tuple rfl) (ev_var (pv 3))))) (ew_or1 (et_cmp (ec_ne G (ev_b (b_len D.n_len) (by rfl) (el_cons (ev_var (pv 3)) el_nil)) (ev_b (b_len D.n_len) (by rfl) (el_cons (ev_var (pv 1)) el_nil))))))) (eb_cons (es_ret ev_bl)
    eb_nil) eb_nil)
    (eb_cons (es_for (is := [4, 5]) [4, 5] G (ei_zip (by rfl) D.n_zip (el_cons (ev_var (pv 3)) (el_cons (ev_var (pv 1)) el_nil))) (eg_tup G (egs_cons (eg_name (i := 4) G.nd rfl (by first | exact .inl rfl | exact .inr rfl)) (egs_cons (eg_name (i := 5) G.nd rfl (by first | exact .inl rfl | exact .inr rfl)) egs_nil))) (eb_cons (es_if (et_w (ew_or (et_not (et_val (ev_call G (ok_is_ship D) (by decide) (by rfl) (el_cons (ev_var (pv 0)) (el_cons (ev_var (pv 4)) el_nil)) (hfl := (ll_cons (ll_cons ll_nil)))))) (ew_or1 (et_cmp (ec_ne G (ev_sub_ix G (ev_var (pv 4)) ev_int) (ev_var (pv 5))))))) (eb_cons (es_ret ev_bl)
    eb_nil) eb_nil)
    eb_nil))
    (eb_cons (es_for (is := [4, 6]) [4, 6, 7] G (ei_enumA (by rfl) D.n_enumerate (ev_var (pv 3))) (eg_tup G (egs_cons (eg_name (i := 6) G.nd rfl (by first | exact .inl rfl | exact .inr rfl)) (egs_cons (eg_name (i := 4) G.nd rfl (by first | exact .inl rfl | exact .inr rfl)) egs_nil))) (eb_cons (es_if (et_w (ew_and (et_cmp (ec_gt G (ev_var (pv 6)) ev_int)) (ew_and (et_cmp (ec_eq G (ev_sub_ix G (ev_var (pv 4)) ev_int) (ev_sub_ix G (ev_sub_ix G (ev_var (pv 3)) (ev_sub (ev_var (pv 6)) ev_int)) ev_int))) (ew_and1 (et_cmp (ec_le G (ev_var (pv 4)) (ev_sub_ix G (ev_var (pv 3)) (ev_sub (ev_var (pv 6)) ev_int)))))))) (eb_cons (es_ret ev_bl)
    eb_nil) eb_nil)
    (eb_cons (es_if (et_not (et_val (ev_b (b_all G.calm D.n_all) (by rfl) (el_cons (ev_lc (own := [("other", 7)]) G (ei_val (ev_sl (ev_var (pv 3)) eo_none (eo_some (ev_var (pv 6))))) (blkOk_by (N := N_is_hiding) (sc := defScope s_is_hiding) (own := [("other", 7)]) (by first | decide +kernel | rfl)) (fun s1 H1 C1 cl1 fp1 => (eg_name (i := 7) (G.blk s1 H1 _ _ fp1).nd rfl (by first | exact .inl rfl | exact .inr rfl))) (fun s1 H1 C1 cl1 fp1 => ets_nil) (fun s1 H1 C1 cl1 fp1 => (ev_call (G.blk s1 H1 _ _ fp1) (ok_keep D) (by decide) (by rfl) (el_cons (ev_var (pv 2)) (el_cons (ev_var (pv 4)) (el_cons (ev_var (pv 7)) el_nil))) (hfl := (ll_cons (ll_cons (ll_cons ll_nil))))))) el_nil)))) (eb_cons (es_ret ev_bl)
    eb_nil) eb_nil)
    eb_nil)))
    (eb_cons (es_ret ev_bl)
    eb_nil))))
theorem ok__law_stir (D : Top K mg) : FnT P w K mg base "_law_stir" 1 2 m__law_stir := by
  obtain ⟨f, fd, F, hm, hb⟩ := D.d__law_stir
  exact fnD_of F sc__law_stir hm hb rfl fun cdv A outer s H E G =>
    (eb_cons (es_set (i := 2) G.nd rfl (by first | exact .inl rfl | exact .inr rfl) (ev_mul (ev_add (ev_add (ev_mod (ev_var (pv 0)) (ev_pow ev_int ev_int)) (ev_mul ev_int (ev_var (pv 1)))) ev_int) ev_int))
    (eb_cons (es_set (i := 2) G.nd rfl (by first | exact .inl rfl | exact .inr rfl) (ev_mod (ev_var (pv 2)) ev_int))
    (eb_cons (es_ret (ev_fdiv (ev_mod (ev_pow (ev_add (ev_pow (ev_var (pv 2)) ev_int) (ev_mul ev_int (ev_var (pv 1)))) ev_int) ev_int) ev_int))
    eb_nil)))
theorem ok__law_drawn (D : Top K mg) : FnT P w K mg base "_law_drawn" 2 2 m__law_drawn := by
  obtain ⟨f, fd, F, hm, hb⟩ := D.d__law_drawn
  exact fnD_of F sc__law_drawn hm hb rfl fun cdv A outer s H E G =>
    (eb_cons (es_set (i := 2) G.nd rfl (by first | exact .inl rfl | exact .inr rfl) (ev_lst el_nil))
    (eb_cons (es_set (i := 3) G.nd rfl (by first | exact .inl rfl | exact .inr rfl) (ev_var (pv 0)))
    (eb_cons (es_for (is := [4]) [4] G (ei_range1 (by rfl) D.n_range (ev_b (b_len D.n_len) (by rfl) (el_cons (ev_var (pv 1)) el_nil))) (eg_name (i := 4) G.nd rfl (by first | exact .inl rfl | exact .inr rfl)) (eb_cons (es_if (et_w (ew_or (et_cmp (ec_lt G (ev_var (pv 0)) (ev_pow ev_int ev_int))) (ew_or1 (et_cmp (ec_eq G (ev_var (pv 3)) ev_int))))) (eb_cons (es_expr (ev_mt opm_app (by decide) (pe_bm PySem.F.plainAttrs_list PySem.F.slot_list_append PySem.F.type_list_append mt_append (pv 2) (el_cons (ev_mod (ev_call G (ok__law_stir D) (by decide) (by rfl) (el_cons (ev_var (pv 0)) (el_cons (ev_var (pv 4)) el_nil)) (hfl := (ll_cons (ll_cons ll_nil)))) (ev_sub_ix G (ev_var (pv 1)) (ev_var (pv 4)))) el_nil))))
    eb_nil) (eb_cons (es_expr (ev_mt opm_app (by decide) (pe_bm PySem.F.plainAttrs_list PySem.F.slot_list_append PySem.F.type_list_append mt_append (pv 2) (el_cons (ev_mod (ev_var (pv 3)) (ev_sub_ix G (ev_var (pv 1)) (ev_var (pv 4)))) el_nil))))
    (eb_cons (es_set (i := 3) G.nd rfl (by first | exact .inl rfl | exact .inr rfl) (ev_fdiv (ev_var (pv 3)) (ev_sub_ix G (ev_var (pv 1)) (ev_var (pv 4)))))
    eb_nil)))
    eb_nil))
    (eb_cons (es_ret (ev_mv (pv 2)))
    eb_nil))))
theorem ok__law_odd (D : Top K mg) : FnT P w K mg base "_law_odd" 3 1 m__law_odd := by
  obtain ⟨f, fd, F, hm, hb⟩ := D.d__law_odd
  exact fnD_of F sc__law_odd hm hb rfl fun cdv A outer s H E G =>
    (eb_cons (es_asg (is := [1, 2, 3]) (ev_call G (ok__law_drawn D) (by decide) (by rfl) (el_cons (ev_var (pv 0)) (el_cons (ev_lst (el_cons ev_int (el_cons ev_int (el_cons ev_int el_nil)))) el_nil)) (hfl := (ll_cons (ll_cons ll_nil)))) (eg_tup G (egs_cons (eg_name (i := 1) G.nd rfl (by first | exact .inl rfl | exact .inr rfl)) (egs_cons (eg_name (i := 2) G.nd rfl (by first | exact .inl rfl | exact .inr rfl)) (egs_cons (eg_name (i := 3) G.nd rfl (by first | exact .inl rfl | exact .inr rfl)) egs_nil)))))
    (eb_cons (es_set (i := 4) G.nd rfl (by first | exact .inl rfl | exact .inr rfl) (ev_lst (el_cons ev_int (el_cons (ev_neg ev_int) (el_cons ev_int (el_cons (ev_var (pv 2)) (el_cons ev_int (el_cons ev_int (el_cons ev_bl (el_cons ev_bl (el_cons ev_non (el_cons ev_str (el_cons ev_str (el_cons ev_str (el_cons ev_str (el_cons (ev_pow ev_int ev_int) (el_cons (ev_sub ev_int (ev_pow ev_int ev_int)) el_nil)))))))))))))))))
    (eb_cons (es_if (et_cmp (ec_lt G (ev_var (pv 1)) ev_int)) (eb_cons (es_ret (ev_sub_ix G (ev_var (pv 4)) (ev_var (pv 1))))
    eb_nil) eb_nil)
    (eb_cons (es_setLc (i := 5) G rfl rfl (sw_true rfl rfl rfl (by decide +kernel)) (ei_range1 (by rfl) D.n_range (ev_var (pv 3))) (blkOk_by (N := N__law_odd) (sc := defScope s__law_odd) (own := [("k", 6)]) (by first | decide +kernel | rfl)) (fun s1 H1 C1 cl1 fp1 => (eg_name (i := 6) (G.blk s1 H1 _ _ fp1).nd rfl (by first | exact .inl rfl | exact .inr rfl))) (fun s1 H1 C1 cl1 fp1 => ets_nil) (fun s1 H1 C1 cl1 fp1 => (ev_sub_ix (G.blk s1 H1 _ _ fp1) (ev_var (pv 4)) (ev_mod (ev_add (ev_var (pv 2)) (ev_mul (ev_var (pv 6)) (ev_var (pv 6)))) ev_int))))
    (eb_cons (es_if (et_cmp (ec_gt G (ev_var (pv 3)) ev_int)) (eb_cons (es_set (i := 5) G.nd rfl (by first | exact .inl rfl | exact .inr rfl) (ev_lst (el_cons (ev_ty (b_tuple D.n_tuple) (by rfl) (el_cons (ev_sl (ev_var (pv 5)) eo_none (eo_some ev_int)) el_nil)) (el_cons (ev_ty (b_list D.n_list) (by rfl) (el_cons (ev_sl (ev_var (pv 5)) (eo_some ev_int) eo_none) el_nil)) (el_cons (ev_sub_ix G (ev_var (pv 5)) ev_int) el_nil)))))
    eb_nil) eb_nil)
    (eb_cons (es_ret (ev_sub_ix G (ev_lst (el_cons (ev_ty (b_tuple D.n_tuple) (by rfl) (el_cons (ev_var (pv 5)) el_nil)) (el_cons (ev_var (pv 5)) (el_cons (ev_tup (el_cons (ev_var (pv 5)) (el_cons (ev_ty (b_tuple D.n_tuple) (by rfl) (el_cons (ev_var (pv 5)) el_nil)) el_nil))) (el_cons (ev_ty (b_tuple D.n_tuple) (by rfl) (el_cons (ev_sl (ev_var (pv 5)) eo_none (eo_some ev_int)) el_nil)) el_nil))))) (ev_sub (ev_var (pv 1)) ev_int)))
    eb_nil))))))
theorem ok__law_cells (D : Top K mg) : FnT P w K mg base "_law_cells" 1 1 m__law_cells := by
  obtain ⟨f, fd, F, hm, hb⟩ := D.d__law_cells
  exact fnD_of F sc__law_cells hm hb rfl fun cdv A outer s H E G =>
    (eb_cons (es_asg (is := [1, 2, 3, 4]) (ev_var (pv 0)) (eg_tup G (egs_cons (eg_name (i := 1) G.nd rfl (by first | exact .inl rfl | exact .inr rfl)) (egs_cons (eg_name (i := 2) G.nd rfl (by first | exact .inl rfl | exact .inr rfl)) (egs_cons (eg_name (i := 3) G.nd rfl (by first | exact .inl rfl | exact .inr rfl)) (egs_cons (eg_name (i := 4) G.nd rfl (by first | exact .inl rfl | exact .inr rfl)) egs_nil))))))
    (eb_cons (es_set (i := 5) G.nd rfl (by first | exact .inl rfl | exact .inr rfl) (ev_lst el_nil))
    (eb_cons (es_for (is := [6]) [6] G (ei_range1 (by rfl) D.n_range (ev_var (pv 4))) (eg_name (i := 6) G.nd rfl (by first | exact .inl rfl | exact .inr rfl)) (eb_cons (es_expr (ev_mt opm_app (by decide) (pe_bm PySem.F.plainAttrs_list PySem.F.slot_list_append PySem.F.type_list_append mt_append (pv 5) (el_cons (ev_tup (el_cons (ev_add (ev_var (pv 1)) (ev_mul (ev_var (pv 6)) (ev_ty (b_int D.n_int) (by rfl) (el_cons (ee_cmp (ec_eq G (ev_var (pv 3)) ev_str)) el_nil)))) (el_cons (ev_add (ev_var (pv 2)) (ev_mul (ev_var (pv 6)) (ev_ty (b_int D.n_int) (by rfl) (el_cons (ee_cmp (ec_eq G (ev_var (pv 3)) ev_str)) el_nil)))) el_nil))) el_nil))))
    eb_nil))
    (eb_cons (es_ret (ev_mv (pv 5)))
    eb_nil))))
theorem ok__law_ships (D : Top K mg) : FnT P w K mg base "_law_ships" 1 2 m__law_ships := by
  obtain ⟨f, fd, F, hm, hb⟩ := D.d__law_ships
  exact fnD_of F sc__law_ships hm hb rfl fun cdv A outer s H E G =>
    (eb_cons (es_set (i := 2) G.nd rfl (by first | exact .inl rfl | exact .inr rfl) (ev_lst el_nil))
    (eb_cons (es_for (is := [3]) [3, 4] G (ei_range1 (by rfl) D.n_range (ev_sub_ix G (ev_var (pv 0)) ev_int)) (eg_name (i := 3) G.nd rfl (by first | exact .inl rfl | exact .inr rfl)) (eb_cons (es_for (is := [4]) [4] G (ei_range1 (by rfl) D.n_range (ev_sub_ix G (ev_var (pv 0)) ev_int)) (eg_name (i := 4) G.nd rfl (by first | exact .inl rfl | exact .inr rfl)) (eb_cons (es_if (et_cmp (ec_le G (ev_add (ev_var (pv 4)) (ev_var (pv 1))) (ev_sub_ix G (ev_var (pv 0)) ev_int))) (eb_cons (es_expr (ev_mt opm_app (by decide) (pe_bm PySem.F.plainAttrs_list PySem.F.slot_list_append PySem.F.type_list_append mt_append (pv 2) (el_cons (ev_tup (el_cons (ev_var (pv 3)) (el_cons (ev_var (pv 4)) (el_cons ev_str (el_cons (ev_var (pv 1)) el_nil))))) el_nil))))
    eb_nil) eb_nil)
    (eb_cons (es_if (et_w (ew_and (et_cmp (ec_le G (ev_add (ev_var (pv 3)) (ev_var (pv 1))) (ev_sub_ix G (ev_var (pv 0)) ev_int))) (ew_and1 (et_cmp (ec_gt G (ev_var (pv 1)) ev_int))))) (eb_cons (es_expr (ev_mt opm_app (by decide) (pe_bm PySem.F.plainAttrs_list PySem.F.slot_list_append PySem.F.type_list_append mt_append (pv 2) (el_cons (ev_tup (el_cons (ev_var (pv 3)) (el_cons (ev_var (pv 4)) (el_cons ev_str (el_cons (ev_var (pv 1)) el_nil))))) el_nil))))
    eb_nil) eb_nil)
    eb_nil)))
    eb_nil))
    (eb_cons (es_ret (ev_mv (pv 2)))
    eb_nil)))
theorem ok__law_halo (D : Top K mg) : FnT P w K mg base "_law_halo" 2 2 m__law_halo := by
  obtain ⟨f, fd, F, hm, hb⟩ := D.d__law_halo
  exact fnD_of F sc__law_halo hm hb rfl fun cdv A outer s H E G =>
    (eb_cons (es_set (i := 2) G.nd rfl (by first | exact .inl rfl | exact .inr rfl) ev_dT)
    (eb_cons (es_set (i := 3) G.nd rfl (by first | exact .inl rfl | exact .inr rfl) (ev_lst (el_cons (ev_tup (el_cons ev_int (el_cons ev_int el_nil))) el_nil)))
    (eb_cons (es_if (et_cmp (ec_ne G (ev_var (pv 0)) ev_str)) (eb_cons (es_set (i := 3) G.nd rfl (by first | exact .inl rfl | exact .inr rfl) (ev_add (ev_var (pv 3)) (ev_lst (el_cons (ev_tup (el_cons ev_int (el_cons ev_int el_nil))) (el_cons (ev_tup (el_cons ev_int (el_cons ev_int el_nil))) (el_cons (ev_tup (el_cons ev_int (el_cons (ev_neg ev_int) el_nil))) (el_cons (ev_tup (el_cons (ev_neg ev_int) (el_cons ev_int el_nil))) el_nil)))))))
    eb_nil) eb_nil)
    (eb_cons (es_if (et_cmp (ec_eq G (ev_var (pv 0)) ev_str)) (eb_cons (es_set (i := 3) G.nd rfl (by first | exact .inl rfl | exact .inr rfl) (ev_add (ev_var (pv 3)) (ev_lst (el_cons (ev_tup (el_cons ev_int (el_cons ev_int el_nil))) (el_cons (ev_tup (el_cons ev_int (el_cons (ev_neg ev_int) el_nil))) (el_cons (ev_tup (el_cons (ev_neg ev_int) (el_cons ev_int el_nil))) (el_cons (ev_tup (el_cons (ev_neg ev_int) (el_cons (ev_neg ev_int) el_nil))) el_nil)))))))
    eb_nil) eb_nil)
    (eb_cons (es_for (is := [4, 5]) [4, 5, 6, 7] G (ei_val (ev_call G (ok__law_cells D) (by decide) (by rfl) (el_cons (ev_var (pv 1)) el_nil) (hfl := (ll_cons ll_nil)))) (eg_tup G (egs_cons (eg_name (i := 4) G.nd rfl (by first | exact .inl rfl | exact .inr rfl)) (egs_cons (eg_name (i := 5) G.nd rfl (by first | exact .inl rfl | exact .inr rfl)) egs_nil))) (eb_cons (es_for (is := [6, 7]) [6, 7] G (ei_val (ev_var (pv 3))) (eg_tup G (egs_cons (eg_name (i := 6) G.nd rfl (by first | exact .inl rfl | exact .inr rfl)) (egs_cons (eg_name (i := 7) G.nd rfl (by first | exact .inl rfl | exact .inr rfl)) egs_nil))) (eb_cons (es_setIx (i := 2) G (pv 2) (ev_tup (el_cons (ev_add (ev_var (pv 4)) (ev_var (pv 6))) (el_cons (ev_add (ev_var (pv 5)) (ev_var (pv 7))) el_nil))) ev_bl)
    eb_nil))
    eb_nil))
    (eb_cons (es_ret (ev_mv (pv 2)))
    eb_nil))))))
theorem ok__law_free (D : Top K mg) : FnT P w K mg base "_law_free" 1 2 m__law_free := by
  obtain ⟨f, fd, F, hm, hb⟩ := D.d__law_free
  exact fnD_of F sc__law_free hm hb rfl fun cdv A outer s H E G =>
    (eb_cons (es_for (is := [2]) [2, 3] G (ei_val (ev_var (pv 0))) (eg_name (i := 2) G.nd rfl (by first | exact .inl rfl | exact .inr rfl)) (eb_cons (es_for (is := [3]) [3] G (ei_val (ev_var (pv 1))) (eg_name (i := 3) G.nd rfl (by first | exact .inl rfl | exact .inr rfl)) (eb_cons (es_if (et_cmp (ec_in G (ev_var (pv 3)) (ev_var (pv 2)))) (eb_cons (es_ret ev_bl)
    eb_nil) eb_nil)
    eb_nil))
    eb_nil))
    (eb_cons (es_ret ev_bl)
    eb_nil))
theorem ok__law_all (D : Top K mg) : FnT P w K mg base "_law_all" 3 3 m__law_all := by
  obtain ⟨f, fd, F, hm, hb⟩ := D.d__law_all
  exact fnD_of F sc__law_all hm hb rfl fun cdv A outer s H E G =>
    (eb_cons (es_set (i := 3) G.nd rfl (by first | exact .inl rfl | exact .inr rfl) (ev_lst (el_cons (ev_tup (el_cons (ev_tup el_nil) (el_cons (ev_lst el_nil) el_nil))) el_nil)))
    (eb_cons (es_for (is := [4, 5]) [4, 5, 6, 7, 8, 9, 10, 11, 12, 13, 14] G (ei_enumA (by rfl) D.n_enumerate (ev_var (pv 1))) (eg_tup G (egs_cons (eg_name (i := 4) G.nd rfl (by first | exact .inl rfl | exact .inr rfl)) (egs_cons (eg_name (i := 5) G.nd rfl (by first | exact .inl rfl | exact .inr rfl)) egs_nil))) (eb_cons (es_set (i := 6) G.nd rfl (by first | exact .inl rfl | exact .inr rfl) (ev_call G (ok__law_ships D) (by decide) (by rfl) (el_cons (ev_var (pv 0)) (el_cons (ev_var (pv 5)) el_nil)) (hfl := (ll_cons (ll_cons ll_nil)))))
    (eb_cons (es_setLc (i := 7) G rfl rfl (sw_true rfl rfl rfl (by decide +kernel)) (ei_val (ev_var (pv 6))) (blkOk_by (N := N__law_all) (sc := defScope s__law_all) (own := [("ship", 14)]) (by first | decide +kernel | rfl)) (fun s1 H1 C1 cl1 fp1 => (eg_name (i := 14) (G.blk s1 H1 _ _ fp1).nd rfl (by first | exact .inl rfl | exact .inr rfl))) (fun s1 H1 C1 cl1 fp1 => ets_nil) (fun s1 H1 C1 cl1 fp1 => (ev_call (G.blk s1 H1 _ _ fp1) (ok__law_halo D) (by decide) (by rfl) (el_cons (ev_var (pv 2)) (el_cons (ev_var (pv 14)) el_nil)) (hfl := (ll_cons (ll_cons ll_nil))))))
    (eb_cons (es_setLc (i := 8) G rfl rfl (sw_true rfl rfl rfl (by decide +kernel)) (ei_val (ev_var (pv 6))) (blkOk_by (N := N__law_all) (sc := defScope s__law_all) (own := [("ship", 14)]) (by first | decide +kernel | rfl)) (fun s1 H1 C1 cl1 fp1 => (eg_name (i := 14) (G.blk s1 H1 _ _ fp1).nd rfl (by first | exact .inl rfl | exact .inr rfl))) (fun s1 H1 C1 cl1 fp1 => ets_nil) (fun s1 H1 C1 cl1 fp1 => (ev_call (G.blk s1 H1 _ _ fp1) (ok__law_cells D) (by decide) (by rfl) (el_cons (ev_var (pv 14)) el_nil) (hfl := (ll_cons ll_nil)))))
    (eb_cons (es_set (i := 9) G.nd rfl (by first | exact .inl rfl | exact .inr rfl) (ev_lst el_nil))
    (eb_cons (es_for (is := [10, 11]) [10, 11, 12, 13] G (ei_val (ev_var (pv 3))) (eg_tup G (egs_cons (eg_name (i := 10) G.nd rfl (by first | exact .inl rfl | exact .inr rfl)) (egs_cons (eg_name (i := 11) G.nd rfl (by first | exact .inl rfl | exact .inr rfl)) egs_nil))) (eb_cons (es_for (is := [12]) [12, 13] G (ei_range1 (by rfl) D.n_range (ev_b (b_len D.n_len) (by rfl) (el_cons (ev_var (pv 6)) el_nil))) (eg_name (i := 12) G.nd rfl (by first | exact .inl rfl | exact .inr rfl)) (eb_cons (es_set (i := 13) G.nd rfl (by first | exact .inl rfl | exact .inr rfl) (ev_or (ee_cmp (ec_eq G (ev_var (pv 4)) ev_int)) (ev_or (ee_cmp (ec_ne G (ev_sub_ix G (ev_var (pv 1)) (ev_sub (ev_var (pv 4)) ev_int)) (ev_var (pv 5)))) (ev_one (ee_cmp (ec_lt G (ev_sub_ix G (ev_var (pv 10)) (ev_neg ev_int)) (ev_sub_ix G (ev_var (pv 6)) (ev_var (pv 12)))))))))
    (eb_cons (es_if (et_w (ew_and (et_val (ev_var (pv 13))) (ew_and1 (et_val (ev_call G (ok__law_free D) (by decide) (by rfl) (el_cons (ev_var (pv 11)) (el_cons (ev_sub_ix G (ev_var (pv 8)) (ev_var (pv 12))) el_nil)) (hfl := (ll_cons (ll_cons ll_nil)))))))) (eb_cons (es_expr (ev_mt opm_app (by decide) (pe_bm PySem.F.plainAttrs_list PySem.F.slot_list_append PySem.F.type_list_append mt_append (pv 9) (el_cons (ev_tup (el_cons (ev_add (ev_var (pv 10)) (ev_tup (el_cons (ev_sub_ix G (ev_var (pv 6)) (ev_var (pv 12))) el_nil))) (el_cons (ev_add (ev_var (pv 11)) (ev_lst (el_cons (ev_sub_ix G (ev_var (pv 7)) (ev_var (pv 12))) el_nil))) el_nil))) el_nil))))
    eb_nil) eb_nil)
    eb_nil)))
    eb_nil))
    (eb_cons (es_set (i := 3) G.nd rfl (by first | exact .inl rfl | exact .inr rfl) (ev_mv (pv 9)))
    eb_nil)))))))
    (eb_cons (es_ret (ev_lc (own := [("hiding", 10), ("halo", 11)]) G (ei_val (ev_var (pv 3))) (blkOk_by (N := N__law_all) (sc := defScope s__law_all) (own := [("hiding", 10), ("halo", 11)]) (by first | decide +kernel | rfl)) (fun s1 H1 C1 cl1 fp1 => (eg_tup (G.blk s1 H1 _ _ fp1) (egs_cons (eg_name (i := 10) (G.blk s1 H1 _ _ fp1).nd rfl (by first | exact .inl rfl | exact .inr rfl)) (egs_cons (eg_name (i := 11) (G.blk s1 H1 _ _ fp1).nd rfl (by first | exact .inl rfl | exact .inr rfl)) egs_nil)))) (fun s1 H1 C1 cl1 fp1 => ets_nil) (fun s1 H1 C1 cl1 fp1 => (ev_var (pv 10)))))
    eb_nil)))
theorem ok__law_game (D : Top K mg) : FnT P w K mg base "_law_game" 3 1 m__law_game := by
  obtain ⟨f, fd, F, hm, hb⟩ := D.d__law_game
  exact fnD_of F sc__law_game hm hb rfl fun cdv A outer s H E G =>
    (eb_cons (es_asg (is := [1, 2, 3, 4, 5, 6, 7]) (ev_call G (ok__law_drawn D) (by decide) (by rfl) (el_cons (ev_var (pv 0)) (el_cons (ev_lst (el_cons ev_int (el_cons ev_int (el_cons ev_int (el_cons ev_int (el_cons ev_int (el_cons ev_int (el_cons ev_int el_nil)))))))) el_nil)) (hfl := (ll_cons (ll_cons ll_nil)))) (eg_tup G (egs_cons (eg_name (i := 1) G.nd rfl (by first | exact .inl rfl | exact .inr rfl)) (egs_cons (eg_name (i := 2) G.nd rfl (by first | exact .inl rfl | exact .inr rfl)) (egs_cons (eg_name (i := 3) G.nd rfl (by first | exact .inl rfl | exact .inr rfl)) (egs_cons (eg_name (i := 4) G.nd rfl (by first | exact .inl rfl | exact .inr rfl)) (egs_cons (eg_name (i := 5) G.nd rfl (by first | exact .inl rfl | exact .inr rfl)) (egs_cons (eg_name (i := 6) G.nd rfl (by first | exact .inl rfl | exact .inr rfl)) (egs_cons (eg_name (i := 7) G.nd rfl (by first | exact .inl rfl | exact .inr rfl)) egs_nil)))))))))
    (eb_cons (es_set (i := 8) G.nd rfl (by first | exact .inl rfl | exact .inr rfl) (ev_sub_ix G (ev_lst (el_cons (ev_tup (el_cons (ev_add ev_int (ev_var (pv 2))) (el_cons (ev_add ev_int (ev_var (pv 3))) el_nil))) (el_cons (ev_tup (el_cons (ev_add ev_int (ev_mod (ev_var (pv 2)) ev_int)) (el_cons (ev_add ev_int (ev_mod (ev_var (pv 3)) ev_int)) el_nil))) (el_cons (ev_tup (el_cons (ev_add ev_int (ev_mod (ev_var (pv 2)) ev_int)) (el_cons (ev_add ev_int (ev_mod (ev_var (pv 3)) ev_int)) el_nil))) el_nil)))) (ev_b (b_min G.calm D.n_min) (by rfl) (el_cons (ev_var (pv 1)) (el_cons ev_int el_nil)))))
    (eb_cons (es_if (et_cmp (ec_eq G (ev_var (pv 1)) ev_int)) (eb_cons (es_set (i := 8) G.nd rfl (by first | exact .inl rfl | exact .inr rfl) (ev_tup (el_cons ev_int (el_cons (ev_add ev_int (ev_var (pv 3))) el_nil))))
    eb_nil) eb_nil)
    (eb_cons (es_set (i := 9) G.nd rfl (by first | exact .inl rfl | exact .inr rfl) (ev_sub_ix G (ev_lst (el_cons (ev_tup (el_cons (ev_add ev_int (ev_var (pv 4))) el_nil)) (el_cons (ev_tup (el_cons (ev_add ev_int (ev_mod (ev_var (pv 4)) ev_int)) (el_cons (ev_add ev_int (ev_mod (ev_var (pv 5)) ev_int)) el_nil))) (el_cons (ev_tup (el_cons (ev_add ev_int (ev_mod (ev_var (pv 4)) ev_int)) (el_cons (ev_add ev_int (ev_mod (ev_var (pv 5)) ev_int)) (el_cons (ev_add ev_int (ev_mod (ev_var (pv 6)) ev_int)) el_nil)))) el_nil)))) (ev_mod (ev_var (pv 1)) ev_int)))
    (eb_cons (es_if (et_cmp (ec_eq G (ev_var (pv 1)) ev_int)) (eb_cons (es_set (i := 9) G.nd rfl (by first | exact .inl rfl | exact .inr rfl) (ev_tup (el_cons (ev_add ev_int (ev_mod (ev_var (pv 4)) ev_int)) (el_cons (ev_add ev_int (ev_mod (ev_var (pv 5)) ev_int)) (el_cons (ev_add ev_int (ev_mod (ev_var (pv 6)) ev_int)) el_nil)))))
    eb_nil) eb_nil)
    (eb_cons (es_set (i := 9) G.nd rfl (by first | exact .inl rfl | exact .inr rfl) (ev_ty (b_tuple D.n_tuple) (by rfl) (el_cons (ev_rev (ev_b (b_sorted G D.n_sorted) (by rfl) (el_cons (ev_var (pv 9)) el_nil))) el_nil)))
    (eb_cons (es_ret (ev_tup (el_cons (ev_var (pv 8)) (el_cons (ev_var (pv 9)) (el_cons (ev_sub_ix G (ev_lst (el_cons ev_str (el_cons ev_str (el_cons ev_str el_nil)))) (ev_var (pv 7))) el_nil)))))
    eb_nil)))))))
theorem ok__law_played (D : Top K mg) : FnT P w K mg base "_law_played" 4 1 m__law_played := by
  obtain ⟨f, fd, F, hm, hb⟩ := D.d__law_played
  exact fnD_of F sc__law_played hm hb rfl fun cdv A outer s H E G =>
    (eb_cons (es_asg (is := [1, 2, 3]) (ev_call G (ok__law_game D) (by decide) (by rfl) (el_cons (ev_var (pv 0)) el_nil) (hfl := (ll_cons ll_nil))) (eg_tup G (egs_cons (eg_name (i := 1) G.nd rfl (by first | exact .inl rfl | exact .inr rfl)) (egs_cons (eg_name (i := 2) G.nd rfl (by first | exact .inl rfl | exact .inr rfl)) (egs_cons (eg_name (i := 3) G.nd rfl (by first | exact .inl rfl | exact .inr rfl)) egs_nil)))))
    (eb_cons (es_set (i := 4) G.nd rfl (by first | exact .inl rfl | exact .inr rfl) (ev_call G (ok__law_all D) (by decide) (by rfl) (el_cons (ev_var (pv 1)) (el_cons (ev_var (pv 2)) (el_cons (ev_var (pv 3)) el_nil))) (hfl := (ll_cons (ll_cons (ll_cons ll_nil))))))
    (eb_cons (es_if (et_cmp (ec_eq G (ev_var (pv 4)) (ev_lst el_nil))) (eb_cons (es_set (i := 2) G.nd rfl (by first | exact .inl rfl | exact .inr rfl) (ev_tup (el_cons ev_int el_nil)))
    (eb_cons (es_set (i := 4) G.nd rfl (by first | exact .inl rfl | exact .inr rfl) (ev_call G (ok__law_all D) (by decide) (by rfl) (el_cons (ev_var (pv 1)) (el_cons (ev_var (pv 2)) (el_cons (ev_var (pv 3)) el_nil))) (hfl := (ll_cons (ll_cons (ll_cons ll_nil))))))
    eb_nil)) eb_nil)
    (eb_cons (es_ret (ev_tup (el_cons (ev_var (pv 1)) (el_cons (ev_var (pv 2)) (el_cons (ev_var (pv 3)) (el_cons (ev_var (pv 4)) el_nil))))))
    eb_nil))))
theorem ok__law_near (D : Top K mg) : FnT P w K mg base "_law_near" 3 3 m__law_near := by
  obtain ⟨f, fd, F, hm, hb⟩ := D.d__law_near
  exact fnD_of F sc__law_near hm hb rfl fun cdv A outer s H E G =>
    (eb_cons (es_asg (is := [3, 4, 5, 6, 7, 8, 9]) (ev_call G (ok__law_drawn D) (by decide) (by rfl) (el_cons (ev_var (pv 0)) (el_cons (ev_lst (el_cons ev_int (el_cons ev_int (el_cons ev_int (el_cons ev_int (el_cons ev_int (el_cons ev_int (el_cons ev_int el_nil)))))))) el_nil)) (hfl := (ll_cons (ll_cons ll_nil)))) (eg_tup G (egs_cons (eg_name (i := 3) G.nd rfl (by first | exact .inl rfl | exact .inr rfl)) (egs_cons (eg_name (i := 4) G.nd rfl (by first | exact .inl rfl | exact .inr rfl)) (egs_cons (eg_name (i := 5) G.nd rfl (by first | exact .inl rfl | exact .inr rfl)) (egs_cons (eg_name (i := 6) G.nd rfl (by first | exact .inl rfl | exact .inr rfl)) (egs_cons (eg_name (i := 7) G.nd rfl (by first | exact .inl rfl | exact .inr rfl)) (egs_cons (eg_name (i := 8) G.nd rfl (by first | exact .inl rfl | exact .inr rfl)) (egs_cons (eg_name (i := 9) G.nd rfl (by first | exact .inl rfl | exact .inr rfl)) egs_nil)))))))))
    (eb_cons (es_set (i := 10) G.nd rfl (by first | exact .inl rfl | exact .inr rfl) (ev_ty (b_list D.n_list) (by rfl) (el_cons (ev_var (pv 2)) el_nil)))
    (eb_cons (es_set (i := 4) G.nd rfl (by first | exact .inl rfl | exact .inr rfl) (ev_mod (ev_var (pv 4)) (ev_lenB (by rfl) D.n_len (pv 10))))
    (eb_cons (es_set (i := 5) G.nd rfl (by first | exact .inl rfl | exact .inr rfl) (ev_mod (ev_var (pv 5)) (ev_lenB (by rfl) D.n_len (pv 10))))
    (eb_cons (es_if (et_cmp (ec_eq G (ev_var (pv 3)) ev_int)) (eb_cons (es_asg (is := []) (ev_tup (el_cons (ev_subO G (pv 10) (ev_var (pv 5))) (el_cons (ev_subO G (pv 10) (ev_var (pv 4))) el_nil))) (eg_tup G (egs_cons (eg_setIx (i := 10) G (pv 10) (ev_var (pv 4))) (egs_cons (eg_setIx (i := 10) G (pv 10) (ev_var (pv 5))) egs_nil))))
    eb_nil) (eb_cons (es_if (et_cmp (ec_eq G (ev_var (pv 3)) ev_int)) (eb_cons (es_setIx (i := 10) G (pv 10) (ev_var (pv 4)) (ev_add (ev_tup (el_cons (ev_mod (ev_var (pv 6)) (ev_sub_ix G (ev_var (pv 1)) ev_int)) (el_cons (ev_mod (ev_var (pv 7)) (ev_sub_ix G (ev_var (pv 1)) ev_int)) el_nil))) (ev_sl (ev_subO G (pv 10) (ev_var (pv 4))) (eo_some ev_int) eo_none)))
    eb_nil) (eb_cons (es_if (et_cmp (ec_eq G (ev_var (pv 3)) ev_int)) (eb_cons (es_setIx (i := 10) G (pv 10) (ev_var (pv 4)) (ev_add (ev_sl (ev_subO G (pv 10) (ev_var (pv 4))) eo_none (eo_some ev_int)) (ev_tup (el_cons (ev_sub_ix G (ev_dict (fps := [((cC (.str "along")), (cC (.str "down"))), ((cC (.str "down")), (cC (.str "along")))]) (pps_cons ev_str ev_str (pps_cons ev_str ev_str pps_nil)) rfl rfl (by intro h; cases h) (by decide)) (ev_sub_ix G (ev_subO G (pv 10) (ev_var (pv 4))) ev_int)) (el_cons (ev_sub_ix G (ev_subO G (pv 10) (ev_var (pv 4))) ev_int) el_nil)))))
    eb_nil) (eb_cons (es_if (et_cmp (ec_eq G (ev_var (pv 3)) ev_int)) (eb_cons (es_setIx (i := 10) G (pv 10) (ev_var (pv 4)) (ev_subO G (pv 10) (ev_var (pv 5))))
    eb_nil) (eb_cons (es_if (et_cmp (ec_eq G (ev_var (pv 3)) ev_int)) (eb_cons (es_expr (ev_mt opm_popAt (by decide) (pe_bm PySem.F.plainAttrs_list PySem.F.slot_list_pop PySem.F.type_list_pop mt_popAt (pv 10) (el_cons (ev_var (pv 4)) el_nil))))
    eb_nil) (eb_cons (es_if (et_cmp (ec_eq G (ev_var (pv 3)) ev_int)) (eb_cons (es_expr (ev_mt opm_ins (by decide) (pe_bm PySem.F.plainAttrs_list PySem.F.slot_list_insert PySem.F.type_list_insert mt_insert (pv 10) (el_cons (ev_var (pv 4)) (el_cons (ev_subO G (pv 10) (ev_var (pv 5))) el_nil)))))
    eb_nil) (eb_cons (es_if (et_cmp (ec_eq G (ev_var (pv 3)) ev_int)) (eb_cons (es_setIx (i := 10) G (pv 10) (ev_var (pv 4)) (ev_add (ev_sl (ev_subO G (pv 10) (ev_var (pv 4))) eo_none (eo_some ev_int)) (ev_tup (el_cons (ev_add ev_int (ev_var (pv 8))) el_nil))))
    eb_nil) (eb_cons (es_if (et_cmp (ec_eq G (ev_var (pv 3)) ev_int)) (eb_cons (es_setIx (i := 10) G (pv 10) (ev_var (pv 4)) (ev_sub_ix G (ev_lst (el_cons ev_non (el_cons ev_int (el_cons (ev_ty (b_list D.n_list) (by rfl) (el_cons (ev_subO G (pv 10) (ev_var (pv 4))) el_nil)) (el_cons (ev_sl (ev_subO G (pv 10) (ev_var (pv 4))) eo_none (eo_some ev_int)) (el_cons ev_str (el_cons (ev_tup el_nil) (el_cons ev_bl (el_cons (ev_add (ev_subO G (pv 10) (ev_var (pv 4))) (ev_tup (el_cons ev_int el_nil))) el_nil))))))))) (ev_var (pv 9))))
    eb_nil) (eb_cons (es_ret (ev_mv (pv 10)))
    eb_nil))
    eb_nil))
    eb_nil))
    eb_nil))
    eb_nil))
    eb_nil))
    eb_nil))
    eb_nil))
    (eb_cons (es_ret (ev_ty (b_tuple D.n_tuple) (by rfl) (el_cons (ev_var (pv 10)) el_nil)))
    eb_nil))))))
theorem ok_law {f : Addr} {fd : FuncData} (D : Top K mg) (F : FunD K "law" "law" (defArgs s_law) (defBody s_law) (defScope s_law) [] [] f fd) : FnOk P w K mg base (L2.CX P w) 5 f fd ["script"] (spP K mg 1 m_law) :=
  fnOk_of F sc_law rfl fun cdv A outer s H E G =>
    (eb_cons (es_for (is := [1]) [1, 2, 3, 4, 5, 6, 7, 8, 9, 10, 11, 12] G (ei_val (ev_add (ev_lst (el_cons ev_int el_nil)) (ev_sl (ev_var (pv 0)) eo_none (eo_some ev_int)))) (eg_name (i := 1) G.nd rfl (by first | exact .inl rfl | exact .inr rfl)) (eb_cons (es_asg (is := [2, 3, 4, 5]) (ev_call G (ok__law_played D) (by decide) (by rfl) (el_cons (ev_var (pv 1)) el_nil) (hfl := (ll_cons ll_nil))) (eg_tup G (egs_cons (eg_name (i := 2) G.nd rfl (by first | exact .inl rfl | exact .inr rfl)) (egs_cons (eg_name (i := 3) G.nd rfl (by first | exact .inl rfl | exact .inr rfl)) (egs_cons (eg_name (i := 4) G.nd rfl (by first | exact .inl rfl | exact .inr rfl)) (egs_cons (eg_name (i := 5) G.nd rfl (by first | exact .inl rfl | exact .inr rfl)) egs_nil))))))
    (eb_cons (es_set (i := 6) G.nd rfl (by first | exact .inl rfl | exact .inr rfl) (ev_hndX G D.n_dict (by rfl) (ev_lc (own := [("hiding", 7)]) G (ei_val (ev_var (pv 5))) (blkOk_by (N := N_law) (sc := defScope s_law) (own := [("hiding", 7)]) (by first | decide +kernel | rfl)) (fun s1 H1 C1 cl1 fp1 => (eg_name (i := 7) (G.blk s1 H1 _ _ fp1).nd rfl (by first | exact .inl rfl | exact .inr rfl))) (fun s1 H1 C1 cl1 fp1 => ets_nil) (fun s1 H1 C1 cl1 fp1 => (ev_tup (el_cons (ev_var (pv 7)) (el_cons ev_bl el_nil)))))))
    (eb_cons (es_set (i := 7) G.nd rfl (by first | exact .inl rfl | exact .inr rfl) (ev_sub_ix G (ev_var (pv 5)) (ev_mod (ev_call G (ok__law_stir D) (by decide) (by rfl) (el_cons (ev_var (pv 1)) (el_cons ev_int el_nil)) (hfl := (ll_cons (ll_cons ll_nil)))) (ev_b (b_len D.n_len) (by rfl) (el_cons (ev_var (pv 5)) el_nil)))))
    (eb_cons (es_set (i := 8) G.nd rfl (by first | exact .inl rfl | exact .inr rfl) (ev_add (ev_lst (el_cons (ev_var (pv 7)) el_nil)) (ev_lc (own := [("k", 12)]) G (ei_range1 (by rfl) D.n_range ev_int) (blkOk_by (N := N_law) (sc := defScope s_law) (own := [("k", 12)]) (by first | decide +kernel | rfl)) (fun s1 H1 C1 cl1 fp1 => (eg_name (i := 12) (G.blk s1 H1 _ _ fp1).nd rfl (by first | exact .inl rfl | exact .inr rfl))) (fun s1 H1 C1 cl1 fp1 => ets_nil) (fun s1 H1 C1 cl1 fp1 => (ev_call (G.blk s1 H1 _ _ fp1) (ok__law_near D) (by decide) (by rfl) (el_cons (ev_add (ev_var (pv 1)) (ev_var (pv 12))) (el_cons (ev_var (pv 2)) (el_cons (ev_var (pv 7)) el_nil))) (hfl := (ll_cons (ll_cons (ll_cons ll_nil)))))))))
    (eb_cons (es_for (is := [9]) [9, 10, 11] G (ei_val (ev_var (pv 8))) (eg_name (i := 9) G.nd rfl (by first | exact .inl rfl | exact .inr rfl)) (eb_cons (es_set (i := 10) G.nd rfl (by first | exact .inl rfl | exact .inr rfl) (ev_and (ev_isi (T := "tuple") (by rfl) D.n_isinstance (by decide) (pe_bltn (v := .ty "tuple") (by rfl) D.n_tuple boot_tuple rfl) (ev_var (pv 9))) (ev_one (ee_cmp (ec_in G (ev_var (pv 9)) (ev_var (pv 5)))))))
    (eb_cons (es_set (i := 11) G.nd rfl (by first | exact .inl rfl | exact .inr rfl) (ev_call G (ok_is_hiding D) (by decide) (by rfl) (el_cons (ev_var (pv 2)) (el_cons (ev_var (pv 3)) (el_cons (ev_var (pv 4)) (el_cons (ev_var (pv 9)) el_nil)))) (hfl := (ll_cons (ll_cons (ll_cons (ll_cons ll_nil)))))))
    (eb_cons (es_if (et_w (ew_or (et_not (et_val (ev_isi (T := "bool") (by rfl) D.n_isinstance (by decide) (pe_bltn (v := .ty "bool") (by rfl) D.n_bool boot_bool rfl) (ev_var (pv 11))))) (ew_or1 (et_cmp (ec_ne G (ev_var (pv 11)) (ev_var (pv 10))))))) (eb_cons (es_ret ev_bl)
    eb_nil) eb_nil)
    eb_nil))))
    (eb_cons (es_if (et_cmp (ec_ne G (ev_lenX G D.n_len (by rfl) (ev_var (pv 6))) (ev_b (b_len D.n_len) (by rfl) (el_cons (ev_var (pv 5)) el_nil)))) (eb_cons (es_ret ev_bl)
    eb_nil) eb_nil)
    (eb_cons (es_for (is := [9]) [9] G (ei_val (ev_lst (el_cons (ev_call G (ok__law_odd D) (by decide) (by rfl) (el_cons (ev_var (pv 1)) el_nil) (hfl := (ll_cons ll_nil))) (el_cons (ev_call G (ok__law_odd D) (by decide) (by rfl) (el_cons (ev_add (ev_var (pv 1)) ev_int) el_nil) (hfl := (ll_cons ll_nil))) (el_cons (ev_var (pv 3)) (el_cons (ev_var (pv 2)) (el_cons (ev_tup (el_cons (ev_var (pv 7)) el_nil)) (el_cons (ev_add (ev_var (pv 7)) (ev_var (pv 7))) el_nil)))))))) (eg_name (i := 9) G.nd rfl (by first | exact .inl rfl | exact .inr rfl)) (eb_cons (es_if (et_cmp (ec_isntB (ev_call G (ok_is_hiding D) (by decide) (by rfl) (el_cons (ev_var (pv 2)) (el_cons (ev_var (pv 3)) (el_cons (ev_var (pv 4)) (el_cons (ev_var (pv 9)) el_nil)))) (hfl := (ll_cons (ll_cons (ll_cons (ll_cons ll_nil)))))) ev_bl)) (eb_cons (es_ret ev_bl)
    eb_nil) eb_nil)
    eb_nil))
    eb_nil))))))))
    (eb_cons (es_ret ev_bl)
    eb_nil))
end
theorem topL {w : World} {K : PySem.W.Frag} {h : Heap} {mg : Str → Option Value} (X : K.In h) (G : h.Ns mainGlobals mg) (c : He.SaysX faL fnL [] [] exL w h K) : Top K mg where
  d_is_whole := by
    obtain ⟨fd, F⟩ := c.t.d.def_ 0 (d := dd_is_whole) rfl
    exact ⟨_, fd, F, He.glo_ok X G (c.t.d.fact 0 (f := .glo "is_whole") rfl), FunD.bindsN F fun _ _ _ _ _ _ us hl => match us, hl with | [_], _ => rfl⟩
  d_is_side := by
    obtain ⟨fd, F⟩ := c.t.d.def_ 1 (d := dd_is_side) rfl
    exact ⟨_, fd, F, He.glo_ok X G (c.t.d.fact 1 (f := .glo "is_side") rfl), FunD.bindsN F fun _ _ _ _ _ _ us hl => match us, hl with | [_], _ => rfl⟩
  d_cells_of := by
    obtain ⟨fd, F⟩ := c.t.d.def_ 2 (d := dd_cells_of) rfl
    exact ⟨_, fd, F, He.glo_ok X G (c.t.d.fact 2 (f := .glo "cells_of") rfl), FunD.bindsN F fun _ _ _ _ _ _ us hl => match us, hl with | [_], _ => rfl⟩
  d_is_on := by
    obtain ⟨fd, F⟩ := c.t.d.def_ 3 (d := dd_is_on) rfl
    exact ⟨_, fd, F, He.glo_ok X G (c.t.d.fact 3 (f := .glo "is_on") rfl), FunD.bindsN F fun _ _ _ _ _ _ us hl => match us, hl with | [_, _], _ => rfl⟩
  d_is_ship := by
    obtain ⟨fd, F⟩ := c.t.d.def_ 4 (d := dd_is_ship) rfl
    exact ⟨_, fd, F, He.glo_ok X G (c.t.d.fact 4 (f := .glo "is_ship") rfl), FunD.bindsN F fun _ _ _ _ _ _ us hl => match us, hl with | [_, _], _ => rfl⟩
  d_reach := by
    obtain ⟨fd, F⟩ := c.t.d.def_ 5 (d := dd_reach) rfl
    exact ⟨_, fd, F, He.glo_ok X G (c.t.d.fact 5 (f := .glo "reach") rfl), FunD.bindsN F fun _ _ _ _ _ _ us hl => match us, hl with | [_], _ => rfl⟩
  d_too_near := by
    obtain ⟨fd, F⟩ := c.t.d.def_ 6 (d := dd_too_near) rfl
    exact ⟨_, fd, F, He.glo_ok X G (c.t.d.fact 6 (f := .glo "too_near") rfl), FunD.bindsN F fun _ _ _ _ _ _ us hl => match us, hl with | [_, _, _], _ => rfl⟩
  d_keep := by
    obtain ⟨fd, F⟩ := c.t.d.def_ 7 (d := dd_keep) rfl
    exact ⟨_, fd, F, He.glo_ok X G (c.t.d.fact 7 (f := .glo "keep") rfl), FunD.bindsN F fun _ _ _ _ _ _ us hl => match us, hl with | [_, _, _], _ => rfl⟩
  d_is_hiding := by
    obtain ⟨fd, F⟩ := c.t.d.def_ 8 (d := dd_is_hiding) rfl
    exact ⟨_, fd, F, He.glo_ok X G (c.t.d.fact 8 (f := .glo "is_hiding") rfl), FunD.bindsN F fun _ _ _ _ _ _ us hl => match us, hl with | [_, _, _, _], _ => rfl⟩
  d__law_stir := by
    obtain ⟨fd, F⟩ := c.t.d.def_ 9 (d := dd__law_stir) rfl
    exact ⟨_, fd, F, He.glo_ok X G (c.t.d.fact 9 (f := .glo "_law_stir") rfl), FunD.bindsN F fun _ _ _ _ _ _ us hl => match us, hl with | [_, _], _ => rfl⟩
  d__law_drawn := by
    obtain ⟨fd, F⟩ := c.t.d.def_ 10 (d := dd__law_drawn) rfl
    exact ⟨_, fd, F, He.glo_ok X G (c.t.d.fact 10 (f := .glo "_law_drawn") rfl), FunD.bindsN F fun _ _ _ _ _ _ us hl => match us, hl with | [_, _], _ => rfl⟩
  d__law_odd := by
    obtain ⟨fd, F⟩ := c.t.d.def_ 11 (d := dd__law_odd) rfl
    exact ⟨_, fd, F, He.glo_ok X G (c.t.d.fact 11 (f := .glo "_law_odd") rfl), FunD.bindsN F fun _ _ _ _ _ _ us hl => match us, hl with | [_], _ => rfl⟩
  d__law_cells := by
    obtain ⟨fd, F⟩ := c.t.d.def_ 12 (d := dd__law_cells) rfl
    exact ⟨_, fd, F, He.glo_ok X G (c.t.d.fact 12 (f := .glo "_law_cells") rfl), FunD.bindsN F fun _ _ _ _ _ _ us hl => match us, hl with | [_], _ => rfl⟩
  d__law_ships := by
    obtain ⟨fd, F⟩ := c.t.d.def_ 13 (d := dd__law_ships) rfl
    exact ⟨_, fd, F, He.glo_ok X G (c.t.d.fact 13 (f := .glo "_law_ships") rfl), FunD.bindsN F fun _ _ _ _ _ _ us hl => match us, hl with | [_, _], _ => rfl⟩
  d__law_halo := by
    obtain ⟨fd, F⟩ := c.t.d.def_ 14 (d := dd__law_halo) rfl
    exact ⟨_, fd, F, He.glo_ok X G (c.t.d.fact 14 (f := .glo "_law_halo") rfl), FunD.bindsN F fun _ _ _ _ _ _ us hl => match us, hl with | [_, _], _ => rfl⟩
  d__law_free := by
    obtain ⟨fd, F⟩ := c.t.d.def_ 15 (d := dd__law_free) rfl
    exact ⟨_, fd, F, He.glo_ok X G (c.t.d.fact 15 (f := .glo "_law_free") rfl), FunD.bindsN F fun _ _ _ _ _ _ us hl => match us, hl with | [_, _], _ => rfl⟩
  d__law_all := by
    obtain ⟨fd, F⟩ := c.t.d.def_ 16 (d := dd__law_all) rfl
    exact ⟨_, fd, F, He.glo_ok X G (c.t.d.fact 16 (f := .glo "_law_all") rfl), FunD.bindsN F fun _ _ _ _ _ _ us hl => match us, hl with | [_, _, _], _ => rfl⟩
  d__law_game := by
    obtain ⟨fd, F⟩ := c.t.d.def_ 17 (d := dd__law_game) rfl
    exact ⟨_, fd, F, He.glo_ok X G (c.t.d.fact 17 (f := .glo "_law_game") rfl), FunD.bindsN F fun _ _ _ _ _ _ us hl => match us, hl with | [_], _ => rfl⟩
  d__law_played := by
    obtain ⟨fd, F⟩ := c.t.d.def_ 18 (d := dd__law_played) rfl
    exact ⟨_, fd, F, He.glo_ok X G (c.t.d.fact 18 (f := .glo "_law_played") rfl), FunD.bindsN F fun _ _ _ _ _ _ us hl => match us, hl with | [_], _ => rfl⟩
  d__law_near := by
    obtain ⟨fd, F⟩ := c.t.d.def_ 19 (d := dd__law_near) rfl
    exact ⟨_, fd, F, He.glo_ok X G (c.t.d.fact 19 (f := .glo "_law_near") rfl), FunD.bindsN F fun _ _ _ _ _ _ us hl => match us, hl with | [_, _, _], _ => rfl⟩
  d_law := by
    obtain ⟨fd, F⟩ := c.t.d.def_ 20 (d := dd_law) rfl
    exact ⟨_, fd, F, He.glo_ok X G (c.t.d.fact 20 (f := .glo "law") rfl), FunD.bindsN F fun _ _ _ _ _ _ us hl => match us, hl with | [_], _ => rfl⟩
  c_MOST_SIDE := He.int_ok X G (c.t.d.fact 21 (f := .int "MOST_SIDE" 8) rfl)
  c_WAYS := by
    have e := c.more
    simp only [exL, Bool.and_eq_true] at e
    exact ⟨_, He.glo_ok X G (c.t.d.fact 22 (f := .glo "WAYS") rfl), fun H => He.tupB_ok e H⟩
  n_abs := He.free_ok X G (c.t.d.fact 23 (f := .free "abs") rfl)
  n_all := He.free_ok X G (c.t.d.fact 24 (f := .free "all") rfl)
  n_bool := He.free_ok X G (c.t.d.fact 25 (f := .free "bool") rfl)
  n_dict := He.free_ok X G (c.t.d.fact 26 (f := .free "dict") rfl)
  n_enumerate := He.free_ok X G (c.t.d.fact 27 (f := .free "enumerate") rfl)
  n_int := He.free_ok X G (c.t.d.fact 28 (f := .free "int") rfl)
  n_isinstance := He.free_ok X G (c.t.d.fact 29 (f := .free "isinstance") rfl)
  n_len := He.free_ok X G (c.t.d.fact 30 (f := .free "len") rfl)
  n_list := He.free_ok X G (c.t.d.fact 31 (f := .free "list") rfl)
  n_max := He.free_ok X G (c.t.d.fact 32 (f := .free "max") rfl)
  n_min := He.free_ok X G (c.t.d.fact 33 (f := .free "min") rfl)
  n_range := He.free_ok X G (c.t.d.fact 34 (f := .free "range") rfl)
  n_sorted := He.free_ok X G (c.t.d.fact 35 (f := .free "sorted") rfl)
  n_str := He.free_ok X G (c.t.d.fact 36 (f := .free "str") rfl)
  n_tuple := He.free_ok X G (c.t.d.fact 37 (f := .free "tuple") rfl)
  n_zip := He.free_ok X G (c.t.d.fact 38 (f := .free "zip") rfl)
def q__law_near_0 (a1 : PyData) (a2 : PyData) (a3 : PyData) : O Unit :=
  O.bind (O.of (R.bind (R.bind (R.bind (R.ok (.sh a1)) fun e21 => R.bind (R.bind (R.bind (R.bind (R.ok (.sh (.int 9))) fun e16 => R.bind (R.bind (R.ok (.sh (.int 4))) fun e14 => R.bind (R.bind (R.ok (.sh (.int 4))) fun e12 => R.bind (R.bind (R.ok (.sh (.int 9))) fun e10 => R.bind (R.bind (R.ok (.sh (.int 9))) fun e8 => R.bind (R.bind (R.ok (.sh (.int 5))) fun e6 => R.bind (R.bind (R.ok (.sh (.int 8))) fun e4 => R.bind (R.ok []) fun l5 => .ok (e4 :: l5)) fun l7 => .ok (e6 :: l7)) fun l9 => .ok (e8 :: l9)) fun l11 => .ok (e10 :: l11)) fun l13 => .ok (e12 :: l13)) fun l15 => .ok (e14 :: l15)) fun l17 => .ok (e16 :: l17)) fun l18 => szR l18.length (.lst l18)) fun e19 => R.bind (R.ok []) fun l20 => .ok (e19 :: l20)) fun l22 => .ok (e21 :: l22)) fun l23 => q__law_drawn (l23.map fz)) fun o25 => unT 7 (fz o25))) fun t24 => O.bind (O.of (R.bind (R.bind (R.ok (.sh a3)) fun e26 => R.bind (R.ok []) fun l27 => .ok (e26 :: l27)) fun l28 => ofOR ((g1 dList) l28))) fun (v29 : OV) => O.bind (O.of (R.bind (R.ok (.sh (nd t24 1))) fun e30 => R.bind (ofPR (dLenP (fz v29))) fun e31 => ofOR (gModI e30 e31))) fun (v32 : OV) => O.bind (O.of (R.bind (R.ok (.sh (nd t24 2))) fun e33 => R.bind (ofPR (dLenP (fz v29))) fun e34 => ofOR (gModI e33 e34))) fun (v35 : OV) => O.bind (O.bind (O.of (R.bind (R.bind (R.ok (.sh (nd t24 0))) fun e36 => R.bind (R.ok (.sh (.int 0))) fun e37 => ofOR (gEq false e36 e37)) toBR)) fun b14435 => if b14435 = true then O.bind (O.of (R.bind (R.bind (R.bind (R.bind (R.ok (.sh (fz v35))) fun e7237 => ofPR (gSubO v29 (fz e7237))) fun e7241 => R.bind (R.bind (R.bind (R.ok (.sh (fz v32))) fun e7238 => ofPR (gSubO v29 (fz e7238))) fun e7239 => R.bind (R.ok []) fun l7240 => .ok (e7239 :: l7240)) fun l7242 => .ok (e7241 :: l7242)) fun l7243 => szR l7243.length (.sh (.tuple (l7243.map fz)))) fun o7245 => R.bind (unT 2 (fz o7245)) (swR v29 (R.ok (.sh (fz v32))) (R.ok (.sh (fz v35)))))) fun (v7246 : OV) => .next v7246 else O.bind (O.bind (O.of (R.bind (R.bind (R.ok (.sh (nd t24 0))) fun e7247 => R.bind (R.ok (.sh (.int 1))) fun e7248 => ofOR (gEq false e7247 e7248)) toBR)) fun b14434 => if b14434 = true then O.bind (O.of (R.bind (R.bind (R.bind (R.bind (R.bind (R.ok (.sh (nd t24 3))) fun e10844 => R.bind (R.bind (R.ok (.sh a2)) fun e10842 => R.bind (R.ok (.sh (.int 0))) fun e10843 => ofOR (gSub e10842 e10843)) fun e10845 => ofOR (gModI e10844 e10845)) fun e10852 => R.bind (R.bind (R.bind (R.ok (.sh (nd t24 4))) fun e10848 => R.bind (R.bind (R.ok (.sh a2)) fun e10846 => R.bind (R.ok (.sh (.int 1))) fun e10847 => ofOR (gSub e10846 e10847)) fun e10849 => ofOR (gModI e10848 e10849)) fun e10850 => R.bind (R.ok []) fun l10851 => .ok (e10850 :: l10851)) fun l10853 => .ok (e10852 :: l10853)) fun l10854 => szR l10854.length (.sh (.tuple (l10854.map fz)))) fun e10861 => R.bind (R.bind (R.bind (R.ok (.sh (fz v32))) fun e10855 => ofPR (gSubO v29 (fz e10855))) fun e10858 => R.bind (R.bind (R.ok (.sh (.int 2))) fun e10856 => R.bind (iR e10856) fun i10857 => .ok (some i10857)) fun i10859 => R.bind (R.ok none) fun i10860 => ofOR (gSl e10858 i10859 i10860)) fun e10862 => ofOR (gAdd e10861 e10862)) fun o10864 => R.bind (R.ok (.sh (fz v32))) fun k10865 => setR v29 k10865 o10864)) fun (v10863 : OV) => .next v10863 else O.bind (O.bind (O.of (R.bind (R.bind (R.ok (.sh (nd t24 0))) fun e10866 => R.bind (R.ok (.sh (.int 2))) fun e10867 => ofOR (gEq false e10866 e10867)) toBR)) fun b14433 => if b14433 = true then O.bind (O.of (R.bind (R.bind (R.bind (R.bind (R.ok (.sh (fz v32))) fun e12651 => ofPR (gSubO v29 (fz e12651))) fun e12654 => R.bind (R.ok none) fun i12655 => R.bind (R.bind (R.ok (.sh (.int 2))) fun e12652 => R.bind (iR e12652) fun i12653 => .ok (some i12653)) fun i12656 => ofOR (gSl e12654 i12655 i12656)) fun e12676 => R.bind (R.bind (R.bind (R.bind (R.bind (noX (R.bind (R.ok (.sh (.str "along"))) fun e12660 => R.bind (R.ok (.sh (.str "down"))) fun e12661 => R.bind (R.bind (R.ok (.sh (.str "down"))) fun e12657 => R.bind (R.ok (.sh (.str "along"))) fun e12658 => R.bind (R.ok []) fun r12659 => .ok ((e12657, e12658) :: r12659)) fun r12662 => .ok ((e12660, e12661) :: r12662))) dictR) fun e12666 => R.bind (R.bind (R.bind (R.ok (.sh (fz v32))) fun e12663 => ofPR (gSubO v29 (fz e12663))) fun e12664 => R.bind (R.ok (.sh (.int 2))) fun e12665 => ofOR (gSub e12664 e12665)) fun e12667 => ofOR (gSub e12666 e12667)) fun e12673 => R.bind (R.bind (R.bind (R.bind (R.ok (.sh (fz v32))) fun e12668 => ofPR (gSubO v29 (fz e12668))) fun e12669 => R.bind (R.ok (.sh (.int 3))) fun e12670 => ofOR (gSub e12669 e12670)) fun e12671 => R.bind (R.ok []) fun l12672 => .ok (e12671 :: l12672)) fun l12674 => .ok (e12673 :: l12674)) fun l12675 => szR l12675.length (.sh (.tuple (l12675.map fz)))) fun e12677 => ofOR (gAdd e12676 e12677)) fun o12679 => R.bind (R.ok (.sh (fz v32))) fun k12680 => setR v29 k12680 o12679)) fun (v12678 : OV) => .next v12678 else O.bind (O.bind (O.of (R.bind (R.bind (R.ok (.sh (nd t24 0))) fun e12681 => R.bind (R.ok (.sh (.int 3))) fun e12682 => ofOR (gEq false e12681 e12682)) toBR)) fun b14432 => if b14432 = true then O.bind (O.of (R.bind (R.bind (R.ok (.sh (fz v35))) fun e13558 => ofPR (gSubO v29 (fz e13558))) fun o13560 => R.bind (R.ok (.sh (fz v32))) fun k13561 => setR v29 k13561 o13560)) fun (v13559 : OV) => .next v13559 else O.bind (O.bind (O.of (R.bind (R.bind (R.ok (.sh (nd t24 0))) fun e13562 => R.bind (R.ok (.sh (.int 4))) fun e13563 => ofOR (gEq false e13562 e13563)) toBR)) fun b14431 => if b14431 = true then O.bind (O.of (R.bind (ownR "list" v29) fun _ => R.bind (R.bind (R.ok (.sh (fz v32))) fun e13998 => R.bind (R.ok []) fun l13999 => .ok (e13998 :: l13999)) fun l14001 => R.bind (mutR mPopAt v29 l14001) fun r14002 => .ok r14002.1)) fun (v14000 : OV) => .next v14000 else O.bind (O.bind (O.of (R.bind (R.bind (R.ok (.sh (nd t24 0))) fun e14003 => R.bind (R.ok (.sh (.int 5))) fun e14004 => ofOR (gEq false e14003 e14004)) toBR)) fun b14430 => if b14430 = true then O.bind (O.of (R.bind (ownR "list" v29) fun _ => R.bind (R.bind (R.ok (.sh (fz v32))) fun e14221 => R.bind (R.bind (R.bind (R.ok (.sh (fz v35))) fun e14218 => ofPR (gSubO v29 (fz e14218))) fun e14219 => R.bind (R.ok []) fun l14220 => .ok (e14219 :: l14220)) fun l14222 => .ok (e14221 :: l14222)) fun l14224 => R.bind (mutR mIns v29 l14224) fun r14225 => .ok r14225.1)) fun (v14223 : OV) => .next v14223 else O.bind (O.bind (O.of (R.bind (R.bind (R.ok (.sh (nd t24 0))) fun e14226 => R.bind (R.ok (.sh (.int 6))) fun e14227 => ofOR (gEq false e14226 e14227)) toBR)) fun b14429 => if b14429 = true then O.bind (O.of (R.bind (R.bind (R.bind (R.bind (R.ok (.sh (fz v32))) fun e14329 => ofPR (gSubO v29 (fz e14329))) fun e14332 => R.bind (R.ok none) fun i14333 => R.bind (R.bind (R.ok (.sh (.int 3))) fun e14330 => R.bind (iR e14330) fun i14331 => .ok (some i14331)) fun i14334 => ofOR (gSl e14332 i14333 i14334)) fun e14340 => R.bind (R.bind (R.bind (R.bind (R.ok (.sh (.int 1))) fun e14335 => R.bind (R.ok (.sh (nd t24 5))) fun e14336 => ofOR (gAdd e14335 e14336)) fun e14337 => R.bind (R.ok []) fun l14338 => .ok (e14337 :: l14338)) fun l14339 => szR l14339.length (.sh (.tuple (l14339.map fz)))) fun e14341 => ofOR (gAdd e14340 e14341)) fun o14343 => R.bind (R.ok (.sh (fz v32))) fun k14344 => setR v29 k14344 o14343)) fun (v14342 : OV) => .next v14342 else O.bind (O.bind (O.of (R.bind (R.bind (R.ok (.sh (nd t24 0))) fun e14345 => R.bind (R.ok (.sh (.int 7))) fun e14346 => ofOR (gEq false e14345 e14346)) toBR)) fun b14428 => if b14428 = true then O.bind (O.of (R.bind (R.bind (R.bind (R.bind (R.ok (.sh .none)) fun e14419 => R.bind (R.bind (R.ok (.sh (.int 7))) fun e14417 => R.bind (R.bind (R.bind (R.bind (R.bind (R.ok (.sh (fz v32))) fun e14388 => ofPR (gSubO v29 (fz e14388))) fun e14389 => R.bind (R.ok []) fun l14390 => .ok (e14389 :: l14390)) fun l14391 => ofOR ((g1 dList) l14391)) fun e14415 => R.bind (R.bind (R.bind (R.bind (R.ok (.sh (fz v32))) fun e14392 => ofPR (gSubO v29 (fz e14392))) fun e14395 => R.bind (R.ok none) fun i14396 => R.bind (R.bind (R.ok (.sh (.int 3))) fun e14393 => R.bind (iR e14393) fun i14394 => .ok (some i14394)) fun i14397 => ofOR (gSl e14395 i14396 i14397)) fun e14413 => R.bind (R.bind (R.ok (.sh (.str "A"))) fun e14411 => R.bind (R.bind (R.bind (R.ok []) fun l14398 => szR l14398.length (.sh (.tuple (l14398.map fz)))) fun e14409 => R.bind (R.bind (R.ok (.sh (.bool true))) fun e14407 => R.bind (R.bind (R.bind (R.bind (R.ok (.sh (fz v32))) fun e14399 => ofPR (gSubO v29 (fz e14399))) fun e14403 => R.bind (R.bind (R.bind (R.ok (.sh (.int 1))) fun e14400 => R.bind (R.ok []) fun l14401 => .ok (e14400 :: l14401)) fun l14402 => szR l14402.length (.sh (.tuple (l14402.map fz)))) fun e14404 => ofOR (gAdd e14403 e14404)) fun e14405 => R.bind (R.ok []) fun l14406 => .ok (e14405 :: l14406)) fun l14408 => .ok (e14407 :: l14408)) fun l14410 => .ok (e14409 :: l14410)) fun l14412 => .ok (e14411 :: l14412)) fun l14414 => .ok (e14413 :: l14414)) fun l14416 => .ok (e14415 :: l14416)) fun l14418 => .ok (e14417 :: l14418)) fun l14420 => .ok (e14419 :: l14420)) fun l14421 => szR l14421.length (.lst l14421)) fun e14422 => R.bind (R.ok (.sh (nd t24 6))) fun e14423 => ofOR (gSub e14422 e14423)) fun o14425 => R.bind (R.ok (.sh (fz v32))) fun k14426 => setR v29 k14426 o14425)) fun (v14424 : OV) => .next v14424 else O.bind (O.of (R.ok v29)) fun o14427 => .ret o14427) fun (s14387 : OV) => .next s14387) fun (s14328 : OV) => .next s14328) fun (s14217 : OV) => .next s14217) fun (s13997 : OV) => .next s13997) fun (s13557 : OV) => .next s13557) fun (s12650 : OV) => .next s12650) fun (s10841 : OV) => .next s10841) fun (s7236 : OV) => O.bind (O.of (R.bind (R.bind (R.ok (.sh (fz s7236))) fun e14436 => R.bind (R.ok []) fun l14437 => .ok (e14436 :: l14437)) fun l14438 => ofOR ((g1 dTuple) l14438))) fun o14439 => .ret o14439
theorem okq__law_near_0 {μ : List SO} (a1 : PyData) (a2 : PyData) (a3 : PyData) : jS μ b__law_near [.ex (.sh a1), .ex (.sh a2), .ex (.sh a3), .un, .un, .un, .un, .un, .un, .un, .un] (q__law_near_0 a1 a2 a3) (fun _ : Unit => [.no, .no, .no, .no, .no, .no, .no, .no, .no, .no, .no]) := by
  unfold q__law_near_0 b__law_near
  exact (js_seq (st1 := fun (t24 : List PyData) => [.ex (.sh a1), .ex (.sh a2), .ex (.sh a3), .ex (.sh (nd t24 0)), .ex (.sh (nd t24 1)), .ex (.sh (nd t24 2)), .ex (.sh (nd t24 3)), .ex (.sh (nd t24 4)), .ex (.sh (nd t24 5)), .ex (.sh (nd t24 6)), .un]) (js_asg (pt := fun _ _ => []) (pt' := fun t24 => [.ex (.sh a1), .ex (.sh a2), .ex (.sh a3), .ex (.sh (nd t24 0)), .ex (.sh (nd t24 1)), .ex (.sh (nd t24 2)), .ex (.sh (nd t24 3)), .ex (.sh (nd t24 4)), .ex (.sh (nd t24 5)), .ex (.sh (nd t24 6)), .un]) (j_call okq__law_drawn (j_lcons (j_v rfl) (j_lcons (j_lst (j_lcons j_c (j_lcons j_c (j_lcons j_c (j_lcons j_c (j_lcons j_c (j_lcons j_c (j_lcons j_c j_lnil)))))))) j_lnil))) fun _ => (jt_tup fun t24 => (jts_cons (by decide) (jts_cons (by decide) (jts_cons (by decide) (jts_cons (by decide) (jts_cons (by decide) (jts_cons (by decide) (jts_cons (by decide) jts_nil))))))))) fun t24 => (js_seq (st1 := fun (v29 : OV) => [.ex (.sh a1), .ex (.sh a2), .ex (.sh a3), .ex (.sh (nd t24 0)), .ex (.sh (nd t24 1)), .ex (.sh (nd t24 2)), .ex (.sh (nd t24 3)), .ex (.sh (nd t24 4)), .ex (.sh (nd t24 5)), .ex (.sh (nd t24 6)), .ex v29]) (js_set (j_fn (j_lcons (j_v rfl) j_lnil))) fun v29 => (js_seq (st1 := fun (v32 : OV) => [.ex (.sh a1), .ex (.sh a2), .ex (.sh a3), .ex (.sh (nd t24 0)), .ex v32, .ex (.sh (nd t24 2)), .ex (.sh (nd t24 3)), .ex (.sh (nd t24 4)), .ex (.sh (nd t24 5)), .ex (.sh (nd t24 6)), .ex v29]) (js_set (j_bin (j_v rfl) (j_b1 rfl rfl))) fun v32 => (js_seq (st1 := fun (v35 : OV) => [.ex (.sh a1), .ex (.sh a2), .ex (.sh a3), .ex (.sh (nd t24 0)), .ex v32, .ex v35, .ex (.sh (nd t24 3)), .ex (.sh (nd t24 4)), .ex (.sh (nd t24 5)), .ex (.sh (nd t24 6)), .ex v29]) (js_set (j_bin (j_v rfl) (j_b1 rfl rfl))) fun v35 => (js_seq (st1 := fun (s7236 : OV) => [.no, .no, .no, .no, .no, .no, .no, .no, .no, .no, .ex s7236]) (js_if (j_test (j_bin (j_v rfl) j_c)) (js_seq (st1 := fun (v7246 : OV) => [.ex (.sh a1), .ex (.sh a2), .ex (.sh a3), .ex (.sh (nd t24 0)), .ex (.sh (fz v32)), .ex (.sh (fz v35)), .ex (.sh (nd t24 3)), .ex (.sh (nd t24 4)), .ex (.sh (nd t24 5)), .ex (.sh (nd t24 6)), .ex v7246]) (js_asg (pt := fun _ _ => []) (j_tup (j_lcons (j_bO rfl rfl (j_vx rfl) rfl) (j_lcons (j_bO rfl rfl (j_vx rfl) rfl) j_lnil))) fun _ => jt_swap (p3 := fun y7244 => [.ex (.sh a1), .ex (.sh a2), .ex (.sh a3), .ex (.sh (nd t24 0)), .ex (.sh (fz v32)), .ex (.sh (fz v35)), .ex (.sh (nd t24 3)), .ex (.sh (nd t24 4)), .ex (.sh (nd t24 5)), .ex (.sh (nd t24 6)), .ex y7244]) (p4 := fun v7246 => [.ex (.sh a1), .ex (.sh a2), .ex (.sh a3), .ex (.sh (nd t24 0)), .ex (.sh (fz v32)), .ex (.sh (fz v35)), .ex (.sh (nd t24 3)), .ex (.sh (nd t24 4)), .ex (.sh (nd t24 5)), .ex (.sh (nd t24 6)), .ex v7246]) rfl (j_v rfl) rfl (fun y7244 => (j_v rfl)) (fun _ => rfl) (fun _ _ => rfl) (fun _ => rfl)) fun v7246 => (js_nil (by exact (.no (.no (.no (.no (.no (.no (.no (.no (.no (.no (.eq .nil)))))))))))))) (js_seq (st1 := fun (s10841 : OV) => [.no, .no, .no, .no, .no, .no, .no, .no, .no, .no, .ex s10841]) (js_if (j_test (j_bin (j_v rfl) j_c)) (js_seq (st1 := fun (v10863 : OV) => [.ex (.sh a1), .ex (.sh a2), .ex (.sh a3), .ex (.sh (nd t24 0)), .ex (.sh (fz v32)), .ex v35, .ex (.sh (nd t24 3)), .ex (.sh (nd t24 4)), .ex (.sh (nd t24 5)), .ex (.sh (nd t24 6)), .ex v10863]) (js_setIx (j_bin (j_tup (j_lcons (j_bin (j_v rfl) (j_bin (j_v rfl) j_c)) (j_lcons (j_bin (j_v rfl) (j_bin (j_v rfl) j_c)) j_lnil))) (j_sl (j_bO rfl rfl (j_vx rfl) rfl) (j_osome j_c) j_ono)) rfl rfl (j_v rfl) rfl) fun v10863 => (js_nil (by exact (.no (.no (.no (.no (.no (.no (.no (.no (.no (.no (.eq .nil)))))))))))))) (js_seq (st1 := fun (s12650 : OV) => [.no, .no, .no, .no, .no, .no, .no, .no, .no, .no, .ex s12650]) (js_if (j_test (j_bin (j_v rfl) j_c)) (js_seq (st1 := fun (v12678 : OV) => [.ex (.sh a1), .ex (.sh a2), .ex (.sh a3), .ex (.sh (nd t24 0)), .ex (.sh (fz v32)), .ex v35, .ex (.sh (nd t24 3)), .ex (.sh (nd t24 4)), .ex (.sh (nd t24 5)), .ex (.sh (nd t24 6)), .ex v12678]) (js_setIx (j_bin (j_sl (j_bO rfl rfl (j_vx rfl) rfl) j_ono (j_osome j_c)) (j_tup (j_lcons (j_bin (j_dict (j_pscons j_c j_c (j_pscons j_c j_c j_psnil))) (j_bin (j_bO rfl rfl (j_v rfl) rfl) j_c)) (j_lcons (j_bin (j_bO rfl rfl (j_v rfl) rfl) j_c) j_lnil)))) rfl rfl (j_v rfl) rfl) fun v12678 => (js_nil (by exact (.no (.no (.no (.no (.no (.no (.no (.no (.no (.no (.eq .nil)))))))))))))) (js_seq (st1 := fun (s13557 : OV) => [.no, .no, .no, .no, .no, .no, .no, .no, .no, .no, .ex s13557]) (js_if (j_test (j_bin (j_v rfl) j_c)) (js_seq (st1 := fun (v13559 : OV) => [.ex (.sh a1), .ex (.sh a2), .ex (.sh a3), .ex (.sh (nd t24 0)), .ex (.sh (fz v32)), .ex (.sh (fz v35)), .ex (.sh (nd t24 3)), .ex (.sh (nd t24 4)), .ex (.sh (nd t24 5)), .ex (.sh (nd t24 6)), .ex v13559]) (js_setIx (j_bO rfl rfl (j_vx rfl) rfl) rfl rfl (j_vx rfl) rfl) fun v13559 => (js_nil (by exact (.no (.no (.no (.no (.no (.no (.no (.no (.no (.no (.eq .nil)))))))))))))) (js_seq (st1 := fun (s13997 : OV) => [.no, .no, .no, .no, .no, .no, .no, .no, .no, .no, .ex s13997]) (js_if (j_test (j_bin (j_v rfl) j_c)) (js_seq (st1 := fun (v14000 : OV) => [.ex (.sh a1), .ex (.sh a2), .ex (.sh a3), .ex (.sh (nd t24 0)), .ex (.sh (fz v32)), .ex v35, .ex (.sh (nd t24 3)), .ex (.sh (nd t24 4)), .ex (.sh (nd t24 5)), .ex (.sh (nd t24 6)), .ex v14000]) (js_mut rfl (j_lcons (j_vx rfl) j_lnil) rfl) fun v14000 => (js_nil (by exact (.no (.no (.no (.no (.no (.no (.no (.no (.no (.no (.eq .nil)))))))))))))) (js_seq (st1 := fun (s14217 : OV) => [.no, .no, .no, .no, .no, .no, .no, .no, .no, .no, .ex s14217]) (js_if (j_test (j_bin (j_v rfl) j_c)) (js_seq (st1 := fun (v14223 : OV) => [.ex (.sh a1), .ex (.sh a2), .ex (.sh a3), .ex (.sh (nd t24 0)), .ex (.sh (fz v32)), .ex (.sh (fz v35)), .ex (.sh (nd t24 3)), .ex (.sh (nd t24 4)), .ex (.sh (nd t24 5)), .ex (.sh (nd t24 6)), .ex v14223]) (js_mut rfl (j_lcons (j_vx rfl) (j_lcons (j_bO rfl rfl (j_vx rfl) rfl) j_lnil)) rfl) fun v14223 => (js_nil (by exact (.no (.no (.no (.no (.no (.no (.no (.no (.no (.no (.eq .nil)))))))))))))) (js_seq (st1 := fun (s14328 : OV) => [.no, .no, .no, .no, .no, .no, .no, .no, .no, .no, .ex s14328]) (js_if (j_test (j_bin (j_v rfl) j_c)) (js_seq (st1 := fun (v14342 : OV) => [.ex (.sh a1), .ex (.sh a2), .ex (.sh a3), .ex (.sh (nd t24 0)), .ex (.sh (fz v32)), .ex v35, .ex (.sh (nd t24 3)), .ex (.sh (nd t24 4)), .ex (.sh (nd t24 5)), .ex (.sh (nd t24 6)), .ex v14342]) (js_setIx (j_bin (j_sl (j_bO rfl rfl (j_vx rfl) rfl) j_ono (j_osome j_c)) (j_tup (j_lcons (j_bin j_c (j_v rfl)) j_lnil))) rfl rfl (j_v rfl) rfl) fun v14342 => (js_nil (by exact (.no (.no (.no (.no (.no (.no (.no (.no (.no (.no (.eq .nil)))))))))))))) (js_seq (st1 := fun (s14387 : OV) => [.no, .no, .no, .no, .no, .no, .no, .no, .no, .no, .ex s14387]) (js_if (j_test (j_bin (j_v rfl) j_c)) (js_seq (st1 := fun (v14424 : OV) => [.ex (.sh a1), .ex (.sh a2), .ex (.sh a3), .ex (.sh (nd t24 0)), .ex (.sh (fz v32)), .ex v35, .ex (.sh (nd t24 3)), .ex (.sh (nd t24 4)), .ex (.sh (nd t24 5)), .ex (.sh (nd t24 6)), .ex v14424]) (js_setIx (j_bin (j_lst (j_lcons j_c (j_lcons j_c (j_lcons (j_fn (j_lcons (j_bO rfl rfl (j_vx rfl) rfl) j_lnil)) (j_lcons (j_sl (j_bO rfl rfl (j_v rfl) rfl) j_ono (j_osome j_c)) (j_lcons j_c (j_lcons (j_tup j_lnil) (j_lcons j_c (j_lcons (j_bin (j_bO rfl rfl (j_v rfl) rfl) (j_tup (j_lcons j_c j_lnil))) j_lnil))))))))) (j_v rfl)) rfl rfl (j_v rfl) rfl) fun v14424 => (js_nil (by exact (.no (.no (.no (.no (.no (.no (.no (.no (.no (.no (.eq .nil)))))))))))))) (js_retc (j_m rfl))) fun s14387 => (js_nil .rf))) fun s14328 => (js_nil .rf))) fun s14217 => (js_nil .rf))) fun s13997 => (js_nil .rf))) fun s13557 => (js_nil .rf))) fun s12650 => (js_nil .rf))) fun s10841 => (js_nil .rf))) fun s7236 => (js_retc (j_fn (j_lcons (j_vx rfl) j_lnil))))))))
def q__law_near : List PyData → R OV
  | [a1, a2, a3] => O.fin (q__law_near_0 a1 a2 a3)
  | _ => .stk
theorem okq__law_near : jP m__law_near q__law_near := fun ds μ => match ds with
  | [a1, a2, a3] => j_def (qq := q__law_near_0 a1 a2 a3) (okq__law_near_0 a1 a2 a3)
  | [] => trivial
  | [_] => trivial
  | [_, _] => trivial
  | _ :: _ :: _ :: _ :: _ => trivial
def q_law_2 (t204 : List PyData) (x253 : PyData) (s252 : Unit) : O (Unit) :=
  O.bind (O.of (R.bind (R.bind (R.bind (R.ok (.sh x253)) fun e282 => R.bind (R.ok []) fun l283 => .ok (e282 :: l283)) fun l284 => ofOR (gIsi "tuple" l284)) fun e287 => andR e287 (R.bind (R.ok (.sh x253)) fun e285 => R.bind (R.ok (.sh (nd t204 3))) fun e286 => ofOR (gIn false e285 e286)))) fun (v288 : OV) => O.bind (O.of (R.bind (R.bind (R.ok (.sh (nd t204 0))) fun e295 => R.bind (R.bind (R.ok (.sh (nd t204 1))) fun e293 => R.bind (R.bind (R.ok (.sh (nd t204 2))) fun e291 => R.bind (R.bind (R.ok (.sh x253)) fun e289 => R.bind (R.ok []) fun l290 => .ok (e289 :: l290)) fun l292 => .ok (e291 :: l292)) fun l294 => .ok (e293 :: l294)) fun l296 => .ok (e295 :: l296)) fun l297 => q_is_hiding (l297.map fz))) fun (v298 : OV) => O.bind (O.bind (O.of (R.bind (R.bind (R.bind (R.bind (R.bind (R.ok (.sh (fz v298))) fun e299 => R.bind (R.ok []) fun l300 => .ok (e299 :: l300)) fun l301 => ofOR (gIsi "bool" l301)) toBR) fun b302 => .ok (!b302)) fun b305 => if b305 = true then .ok true else (R.bind (R.bind (R.ok (.sh (fz v298))) fun e303 => R.bind (R.ok (.sh (fz v288))) fun e304 => ofOR (gEq true e303 e304)) toBR))) fun b309 => if b309 = true then O.bind (O.of (R.ok (.sh (.bool false)))) fun o308 => .ret o308 else .next ()) fun s307 => .next ()
theorem okq_law_2 (x14 : PyData) (t204 : List PyData) (v216 : OV) (v230 : OV) (m251 : List SO) (x253 : PyData) (s252 : Unit) : jS m251 b_law_2 [.no, .ex (.sh x14), .ex (.sh (nd t204 0)), .ex (.sh (nd t204 1)), .ex (.sh (nd t204 2)), .ex (.sh (nd t204 3)), .ex v216, .ex (.sh (fz v230)), .no, .ex (.sh x253), .no, .no, .no] (q_law_2 t204 x253 s252) (fun (s252 : Unit) => [.no, .ex (.sh x14), .ex (.sh (nd t204 0)), .ex (.sh (nd t204 1)), .ex (.sh (nd t204 2)), .ex (.sh (nd t204 3)), .ex v216, .ex (.sh (fz v230)), .no, .no, .no, .no, .no]) := by
  unfold q_law_2 b_law_2
  exact (js_seq (st1 := fun (v288 : OV) => [.no, .ex (.sh x14), .ex (.sh (nd t204 0)), .ex (.sh (nd t204 1)), .ex (.sh (nd t204 2)), .ex (.sh (nd t204 3)), .ex v216, .ex (.sh (fz v230)), .no, .ex (.sh x253), .ex v288, .no, .no]) (js_set (j_and (j_fn (j_lcons (j_v rfl) j_lnil)) (j_bin (j_v rfl) (j_v rfl)) .rf)) fun v288 => (js_seq (st1 := fun (v298 : OV) => [.no, .ex (.sh x14), .ex (.sh (nd t204 0)), .ex (.sh (nd t204 1)), .ex (.sh (nd t204 2)), .ex (.sh (nd t204 3)), .ex v216, .ex (.sh (fz v230)), .no, .ex (.sh x253), .ex v288, .ex v298, .no]) (js_set (j_call okq_is_hiding (j_lcons (j_v rfl) (j_lcons (j_v rfl) (j_lcons (j_v rfl) (j_lcons (j_v rfl) j_lnil)))))) fun v298 => (js_seq (st1 := fun (s307 : Unit) => [.no, .ex (.sh x14), .ex (.sh (nd t204 0)), .ex (.sh (nd t204 1)), .ex (.sh (nd t204 2)), .ex (.sh (nd t204 3)), .ex v216, .ex (.sh (fz v230)), .no, .no, .no, .no, .no]) (js_if (j_bor (j_not (j_test (j_fn (j_lcons (j_vx rfl) j_lnil)))) ((j_test (j_bin (j_v rfl) (j_vx rfl))).wk (by exact (.eq (.eq (.eq (.eq (.eq (.eq (.eq (.eq (.eq (.eq (.fs (.eq (.eq .nil))))))))))))))) (by exact (.eq (.eq (.eq (.eq (.eq (.eq (.eq (.eq (.eq (.eq (.fr (.eq (.eq .nil))))))))))))))) (js_retc j_c) (js_nil (by exact (.eq (.eq (.eq (.eq (.eq (.eq (.eq (.eq (.eq (.no (.no (.no (.eq .nil)))))))))))))))) fun s307 => (js_nil .rf))))
def q_law_1 (t204 : List PyData) (x351 : PyData) (s350 : Unit) : O (Unit) :=
  O.bind (O.bind (O.of (R.bind (R.bind (R.bind (R.bind (R.ok (.sh (nd t204 0))) fun e373 => R.bind (R.bind (R.ok (.sh (nd t204 1))) fun e371 => R.bind (R.bind (R.ok (.sh (nd t204 2))) fun e369 => R.bind (R.bind (R.ok (.sh x351)) fun e367 => R.bind (R.ok []) fun l368 => .ok (e367 :: l368)) fun l370 => .ok (e369 :: l370)) fun l372 => .ok (e371 :: l372)) fun l374 => .ok (e373 :: l374)) fun l375 => q_is_hiding (l375.map fz)) fun e376 => R.bind (R.ok (.sh (.bool false))) fun e377 => ofOR (gIsB true e376 e377)) toBR)) fun b381 => if b381 = true then O.bind (O.of (R.ok (.sh (.bool false)))) fun o380 => .ret o380 else .next ()) fun s379 => .next ()
theorem okq_law_1 (t204 : List PyData) (m323 : List SO) (x351 : PyData) (s350 : Unit) : jS m323 b_law_1 [.no, .no, .ex (.sh (nd t204 0)), .ex (.sh (nd t204 1)), .ex (.sh (nd t204 2)), .no, .no, .no, .no, .ex (.sh x351), .no, .no, .no] (q_law_1 t204 x351 s350) (fun (s350 : Unit) => [.no, .no, .ex (.sh (nd t204 0)), .ex (.sh (nd t204 1)), .ex (.sh (nd t204 2)), .no, .no, .no, .no, .no, .no, .no, .no]) := by
  unfold q_law_1 b_law_1
  exact (js_seq (st1 := fun (s379 : Unit) => [.no, .no, .ex (.sh (nd t204 0)), .ex (.sh (nd t204 1)), .ex (.sh (nd t204 2)), .no, .no, .no, .no, .no, .no, .no, .no]) (js_if (j_test (j_bin (j_call okq_is_hiding (j_lcons (j_v rfl) (j_lcons (j_v rfl) (j_lcons (j_v rfl) (j_lcons (j_v rfl) j_lnil))))) j_c)) (js_retc j_c) (js_nil (by exact (.eq (.eq (.eq (.eq (.eq (.eq (.eq (.eq (.eq (.no (.eq (.eq (.eq .nil)))))))))))))))) fun s379 => (js_nil .rf))
def q_law_3  (x14 : PyData) (s13 : Unit) (m200 : List SO) : OX (Unit) :=
  OX.bind (OX.lift m200 (O.of (R.bind (R.bind (R.bind (R.ok (.sh x14)) fun e201 => R.bind (R.ok []) fun l202 => .ok (e201 :: l202)) fun l203 => q__law_played (l203.map fz)) fun o205 => unT 4 (fz o205)))) fun t204 m206 => OX.bind (OX.of (XR.bind (XR.of m206 (R.bind (R.bind (R.ok (.sh (nd t204 3))) itR) fun z214 => R.bind (lcR (fun x207 => R.bind (R.bind (R.bind (R.ok (.sh x207)) fun e210 => R.bind (R.bind (R.ok (.sh (.bool true))) fun e208 => R.bind (R.ok []) fun l209 => .ok (e208 :: l209)) fun l211 => .ok (e210 :: l211)) fun l212 => szR l212.length (.sh (.tuple (l212.map fz)))) fun o213 => .ok (some o213)) z214) fun l215 => szR l215.length (.lst l215))) hndXR)) fun (v216 : OV) m217 => OX.bind (OX.lift m217 (O.of (R.bind (R.ok (.sh (nd t204 3))) fun e228 => R.bind (R.bind (R.bind (R.bind (R.ok (.sh x14)) fun e220 => R.bind (R.bind (R.ok (.sh (.int 200))) fun e218 => R.bind (R.ok []) fun l219 => .ok (e218 :: l219)) fun l221 => .ok (e220 :: l221)) fun l222 => q__law_stir (l222.map fz)) fun e226 => R.bind (R.bind (R.bind (R.ok (.sh (nd t204 3))) fun e223 => R.bind (R.ok []) fun l224 => .ok (e223 :: l224)) fun l225 => ofOR ((g1 dLen) l225)) fun e227 => ofOR (gModI e226 e227)) fun e229 => ofOR (gSub e228 e229)))) fun (v230 : OV) m231 => OX.bind (OX.lift m231 (O.of (R.bind (R.bind (R.bind (R.ok (.sh (fz v230))) fun e232 => R.bind (R.ok []) fun l233 => .ok (e232 :: l233)) fun l234 => szR l234.length (.lst l234)) fun e248 => R.bind (R.bind (R.bind (R.ok (.sh (.int 12))) rng1R) fun z246 => R.bind (lcR (fun x235 => R.bind (R.bind (R.bind (R.bind (R.ok (.sh x14)) fun e236 => R.bind (R.ok (.sh x235)) fun e237 => ofOR (gAdd e236 e237)) fun e242 => R.bind (R.bind (R.ok (.sh (nd t204 0))) fun e240 => R.bind (R.bind (R.ok (.sh (fz v230))) fun e238 => R.bind (R.ok []) fun l239 => .ok (e238 :: l239)) fun l241 => .ok (e240 :: l241)) fun l243 => .ok (e242 :: l243)) fun l244 => q__law_near (l244.map fz)) fun o245 => .ok (some o245)) z246) fun l247 => szR l247.length (.lst l247)) fun e249 => ofOR (gAdd e248 e249)))) fun (v250 : OV) m251 => OX.bind (OX.lift m251 (O.bind (O.of (R.bind (R.ok (.sh (fz v250))) itR)) fun z310 => forO z310 (fun x253 s252 => q_law_2 t204 x253 s252) ())) fun s311 m312 => OX.bind (OX.lift m312 (O.bind (O.of (R.bind (R.bind (R.bind (R.ok (.sh (fz v216))) fun e313 => ofPR (lenXR m312 (fz e313))) fun e317 => R.bind (R.bind (R.bind (R.ok (.sh (nd t204 3))) fun e314 => R.bind (R.ok []) fun l315 => .ok (e314 :: l315)) fun l316 => ofOR ((g1 dLen) l316)) fun e318 => ofOR (gEq true e317 e318)) toBR)) fun b322 => if b322 = true then O.bind (O.of (R.ok (.sh (.bool false)))) fun o321 => .ret o321 else .next ())) fun s320 m323 => OX.bind (OX.lift m323 (O.bind (O.of (R.bind (R.bind (R.bind (R.bind (R.bind (R.ok (.sh x14)) fun e324 => R.bind (R.ok []) fun l325 => .ok (e324 :: l325)) fun l326 => q__law_odd (l326.map fz)) fun e347 => R.bind (R.bind (R.bind (R.bind (R.bind (R.ok (.sh x14)) fun e327 => R.bind (R.ok (.sh (.int 2))) fun e328 => ofOR (gAdd e327 e328)) fun e329 => R.bind (R.ok []) fun l330 => .ok (e329 :: l330)) fun l331 => q__law_odd (l331.map fz)) fun e345 => R.bind (R.bind (R.ok (.sh (nd t204 1))) fun e343 => R.bind (R.bind (R.ok (.sh (nd t204 0))) fun e341 => R.bind (R.bind (R.bind (R.bind (R.ok (.sh (fz v230))) fun e332 => R.bind (R.ok []) fun l333 => .ok (e332 :: l333)) fun l334 => szR l334.length (.sh (.tuple (l334.map fz)))) fun e339 => R.bind (R.bind (R.bind (R.ok (.sh (fz v230))) fun e335 => R.bind (R.ok (.sh (fz v230))) fun e336 => ofOR (gAdd e335 e336)) fun e337 => R.bind (R.ok []) fun l338 => .ok (e337 :: l338)) fun l340 => .ok (e339 :: l340)) fun l342 => .ok (e341 :: l342)) fun l344 => .ok (e343 :: l344)) fun l346 => .ok (e345 :: l346)) fun l348 => .ok (e347 :: l348)) fun l349 => szR l349.length (.lst l349)) itR)) fun z382 => forO z382 (fun x351 s350 => q_law_1 t204 x351 s350) ())) fun s383 m384 => .next () m384
theorem okq_law_3  (x14 : PyData) (s13 : Unit) (m200 : List SO) : jXS m200 b_law_3 [.no, .ex (.sh x14), .no, .no, .no, .no, .no, .no, .no, .no, .no, .no, .no] (q_law_3 x14 s13 m200) (fun (s13 : Unit) => [.no, .no, .no, .no, .no, .no, .no, .no, .no, .no, .no, .no, .no]) := by
  unfold q_law_3 b_law_3
  exact (js_xseq (st1 := fun (t204 : List PyData) => [.no, .ex (.sh x14), .ex (.sh (nd t204 0)), .ex (.sh (nd t204 1)), .ex (.sh (nd t204 2)), .ex (.sh (nd t204 3)), .no, .no, .no, .no, .no, .no, .no]) (jS.x (js_asg (pt := fun _ _ => []) (pt' := fun t204 => [.no, .ex (.sh x14), .ex (.sh (nd t204 0)), .ex (.sh (nd t204 1)), .ex (.sh (nd t204 2)), .ex (.sh (nd t204 3)), .no, .no, .no, .no, .no, .no, .no]) (j_call okq__law_played (j_lcons (j_v rfl) j_lnil)) fun _ => (jt_tup fun t204 => (jts_cons (by decide) (jts_cons (by decide) (jts_cons (by decide) (jts_cons (by decide) jts_nil))))))) fun t204 m206 => (js_xseq (st1 := fun (v216 : OV) => [.no, .ex (.sh x14), .ex (.sh (nd t204 0)), .ex (.sh (nd t204 1)), .ex (.sh (nd t204 2)), .ex (.sh (nd t204 3)), .ex v216, .no, .no, .no, .no, .no, .no]) (js_xset (j_xhndX (jE.x (j_lc (pc := [.no, .ex (.sh x14), .ex (.sh (nd t204 0)), .ex (.sh (nd t204 1)), .ex (.sh (nd t204 2)), .ex (.sh (nd t204 3)), .no, .no, .no, .no, .no, .no, .no]) (j_ival (j_v rfl)) .rf fun x207 => (j_turn1N (j_tup (j_lcons (j_v rfl) (j_lcons j_c j_lnil))) .rf))))) fun v216 m217 => (js_xseq (st1 := fun (v230 : OV) => [.no, .ex (.sh x14), .ex (.sh (nd t204 0)), .ex (.sh (nd t204 1)), .ex (.sh (nd t204 2)), .ex (.sh (nd t204 3)), .ex v216, .ex v230, .no, .no, .no, .no, .no]) (jS.x (js_set (j_bin (j_v rfl) (j_bin (j_call okq__law_stir (j_lcons (j_v rfl) (j_lcons j_c j_lnil))) (j_fn (j_lcons (j_v rfl) j_lnil)))))) fun v230 m231 => (js_xseq (st1 := fun (v250 : OV) => [.no, .ex (.sh x14), .ex (.sh (nd t204 0)), .ex (.sh (nd t204 1)), .ex (.sh (nd t204 2)), .ex (.sh (nd t204 3)), .ex v216, .ex (.sh (fz v230)), .ex v250, .no, .no, .no, .no]) (jS.x (js_set (j_bin (j_lst (j_lcons (j_vx rfl) j_lnil)) (j_lc (pc := [.no, .ex (.sh x14), .ex (.sh (nd t204 0)), .ex (.sh (nd t204 1)), .ex (.sh (nd t204 2)), .ex (.sh (nd t204 3)), .ex v216, .ex (.sh (fz v230)), .no, .no, .no, .no, .no]) (j_irange1 j_c) .rf fun x235 => (j_turn1N (j_call okq__law_near (j_lcons (j_bin (j_v rfl) (j_v rfl)) (j_lcons (j_v rfl) (j_lcons (j_v rfl) j_lnil)))) .rf))))) fun v250 m251 => (js_xseq (st1 := fun (s311 : Unit) => [.no, .ex (.sh x14), .ex (.sh (nd t204 0)), .ex (.sh (nd t204 1)), .ex (.sh (nd t204 2)), .ex (.sh (nd t204 3)), .ex v216, .ex (.sh (fz v230)), .no, .no, .no, .no, .no]) (jS.x (js_forN (st := fun (s252 : Unit) => [.no, .ex (.sh x14), .ex (.sh (nd t204 0)), .ex (.sh (nd t204 1)), .ex (.sh (nd t204 2)), .ex (.sh (nd t204 3)), .ex v216, .ex (.sh (fz v230)), .no, .no, .no, .no, .no]) (j_ival (j_vx rfl)) (by exact (.eq (.eq (.eq (.eq (.eq (.eq (.eq (.eq (.no (.eq (.eq (.eq (.eq .nil)))))))))))))) (fun x253 s252 => okq_law_2 x14 t204 v216 v230 m251 x253 s252) (fun _ => rfl))) fun s311 m312 => (js_xseq (st1 := fun (s320 : Unit) => [.no, .ex (.sh x14), .ex (.sh (nd t204 0)), .ex (.sh (nd t204 1)), .ex (.sh (nd t204 2)), .no, .no, .ex (.sh (fz v230)), .no, .no, .no, .no, .no]) (jS.x (js_if (j_test (j_bin (j_lenX (j_vx rfl)) (j_fn (j_lcons (j_v rfl) j_lnil)))) (js_retc j_c) (js_nil (by exact (.eq (.eq (.eq (.eq (.eq (.no (.no (.eq (.eq (.eq (.eq (.eq (.eq .nil))))))))))))))))) fun s320 m323 => (js_xseq (st1 := fun (s383 : Unit) => [.no, .no, .ex (.sh (nd t204 0)), .ex (.sh (nd t204 1)), .ex (.sh (nd t204 2)), .no, .no, .no, .no, .no, .no, .no, .no]) (jS.x (js_forN (st := fun (s350 : Unit) => [.no, .no, .ex (.sh (nd t204 0)), .ex (.sh (nd t204 1)), .ex (.sh (nd t204 2)), .no, .no, .no, .no, .no, .no, .no, .no]) (j_ival (j_lst (j_lcons (j_call okq__law_odd (j_lcons (j_v rfl) j_lnil)) (j_lcons (j_call okq__law_odd (j_lcons (j_bin (j_v rfl) j_c) j_lnil)) (j_lcons (j_v rfl) (j_lcons (j_v rfl) (j_lcons (j_tup (j_lcons (j_v rfl) j_lnil)) (j_lcons (j_bin (j_v rfl) (j_v rfl)) j_lnil)))))))) (by exact (.eq (.no (.eq (.eq (.eq (.eq (.eq (.no (.eq (.eq (.eq (.eq (.eq .nil)))))))))))))) (fun x351 s350 => okq_law_1 t204 m323 x351 s350) (fun _ => rfl))) fun s383 m384 => (js_xnil (by exact (.eq (.eq (.no (.no (.no (.eq (.eq (.eq (.eq (.eq (.eq (.eq (.eq .nil))))))))))))))))))))))
def q_law_0 (m2 : List SO) (a1 : PyData) : OX Unit :=
  OX.bind (OX.bind (OX.of (XR.of m2 (R.bind (R.bind (R.bind (R.bind (R.ok (.sh (.int 0))) fun e3 => R.bind (R.ok []) fun l4 => .ok (e3 :: l4)) fun l5 => szR l5.length (.lst l5)) fun e11 => R.bind (R.bind (R.ok (.sh a1)) fun e8 => R.bind (R.ok none) fun i9 => R.bind (R.bind (R.ok (.sh (.int 20))) fun e6 => R.bind (iR e6) fun i7 => .ok (some i7)) fun i10 => ofOR (gSl e8 i9 i10)) fun e12 => ofOR (gAdd e11 e12)) itR))) fun z385 m386 => forX z385 (fun x14 s13 m387 => q_law_3 x14 s13 m387) () m386) fun s389 m390 => OX.bind (OX.of (XR.of m390 (R.ok (.sh (.bool true))))) fun o391 m392 => .ret o391 m392
theorem okq_law_0 (m2 : List SO) (a1 : PyData) : jXS m2 b_law [.ex (.sh a1), .un, .un, .un, .un, .un, .un, .un, .un, .un, .un, .un, .un] (q_law_0 m2 a1) (fun _ : Unit => [.no, .no, .no, .no, .no, .no, .no, .no, .no, .no, .no, .no, .no]) := by
  unfold q_law_0 b_law
  exact (js_xseq (st1 := fun (s389 : Unit) => [.no, .no, .no, .no, .no, .no, .no, .no, .no, .no, .no, .no, .no]) (js_xforN (st := fun (s13 : Unit) => [.no, .no, .no, .no, .no, .no, .no, .no, .no, .no, .no, .no, .no]) (j_ival (j_bin (j_lst (j_lcons j_c j_lnil)) (j_sl (j_v rfl) j_ono (j_osome j_c)))) (by exact (.no (.eq (.eq (.eq (.eq (.eq (.eq (.eq (.eq (.eq (.eq (.eq (.eq .nil)))))))))))))) (fun x14 s13 m387 => okq_law_3 x14 s13 m387) (fun _ => rfl)) fun s389 m390 => (js_xretc (jE.x j_c)))
def q_law : List PyData → List SO → XR OV
  | [a1], m2 => OX.fin (q_law_0 m2 a1)
  | _, _ => .stk
theorem okq_law : jXP m_law q_law := fun ds m2 => match ds with
  | [a1] => j_xdef (qq := q_law_0 m2 a1) (okq_law_0 m2 a1)
  | [] => trivial
  | _ :: _ :: _ => trivial
end K03
namespace K03
open PySem PySem.Spec L2 Ev Com
open PyProof.Rows hiding St cnt
local macro_rules | `(tactic| decreasing_trivial_pre_omega) => `(tactic| simp only [fz_tup, ↓XR.bind_ok, ↓XR.bind_exc, ↓OX.bind_next, ↓OX.bind_ret, ↓OX.bind_exc, XR.bind_ok, XR.bind_exc, XR.of_ok, XR.of_exc, OX.bind_next, OX.bind_ret, OX.bind_exc, OX.of_ok, OX.of_exc, OX.lift_next, OX.lift_ret, OX.lift_exc, OX.fin_next, OX.fin_ret, OX.fin_exc, forX_nil, forX_cons, tryX_next, tryX_ret, andX_b, orX_b, mkX_ok, mkX_exc, fz_shL, itR_shL, ownR_shL, dLenP_l, dLenP_t, gIsiP_ll, gIsiP_tt, gIsiP_tl, gIsiP_lt, raiseO_s, raiseKO_s, tryO_next, tryO_ret, tryO_stk, gSubO_eq, orP_some, ↓R.bind_ok, ↓R.bind_exc, ↓R.bind_stk, ↓O.bind_next, ↓O.bind_ret, ↓O.bind_exc, ↓O.bind_stk, R.bind_ok, R.bind_exc, R.bind_stk, O.bind_next, O.bind_ret, O.bind_exc, O.bind_stk, O.of_ok, O.of_exc, O.of_stk, O.fin_next, O.fin_ret, O.fin_exc, ofOR_some, ofPR_some, toBR_b, andR_b, orR_b, chR_b, iR_i, noX_ok, szR_lit, Option.isSome_some, Option.isSome_none, mutR_app, mutR_some, ownR_lst, ownR_dk, ownR_dt, itR_tup, itR_list, itR_lst, unT_l2, unT_l3, unT_l4, unT_l5, unT_l6, unT_l7, unL_l2, unL_l3, unL_l4, unL_l5, unL_l6, unL_l7, nd0, nd1, nd2, nd3, nd4, nd5, nd6, par2R_ok, gAdd_int, gII_ok, gI_int, gOrd_int, gEq_int, fz_sh, fz_lst, gNot_b, g1, g1_one, gi_int_none, gi_int_bool, gi_int_int, gi_int_str, gi_int_list, gi_int_tuple, gi_bool_none, gi_bool_bool, gi_bool_int, gi_bool_str, gi_bool_list, gi_bool_tuple, gi_str_none, gi_str_bool, gi_str_int, gi_str_str, gi_str_list, gi_str_tuple, gi_list_none, gi_list_bool, gi_list_int, gi_list_str, gi_list_list, gi_list_tuple, gi_tuple_none, gi_tuple_bool, gi_tuple_int, gi_tuple_str, gi_tuple_list, gi_tuple_tuple, gMax_two, mApp_ok, ownT_lst, dLen_list, dLen_tup, gSub_list, gSub_tup, gSub_lst, atI_l0, atI_l1, atI_l2, atI_l3, atI_l4, atI_l5, atI_l6, Option.map_some, dInt_b, dInt_i, dAbs_i, List.map_cons, List.map_nil, List.cons_append, List.nil_append, if_true, if_false, Bool.false_eq_true, decide_true, decide_false, Bool.false_xor, Bool.true_xor, decide_eq_true_eq, List.length_cons, List.length_nil, nl0, nl1, nl2, nl3, nl4, nl5, nl6, nl7, nl8, nl9, nl10, nl11, nl12, nl13, nl14, nl15, nl16, nl17, nl18, nl19, nl20, Nat.reduceAdd, Nat.reduceSub, Nat.reduceMul, Int.reduceLT, Int.reduceEq, Int.reduceSub, Int.reduceAdd, Int.reduceNeg, Int.reduceLE, Int.reduceMul, Int.reduceToNat, sz_le, sz_lt, Nat.reduceLeDiff, Nat.reduceLT, Bool.not_true, Bool.not_false, Bool.true_and, Bool.and_true, Bool.false_and, Bool.and_false, Bool.true_or, Bool.or_true, Bool.false_or, Bool.or_false, rite_and, rite_or, rb_and, rb_or, Bool.decide_eq_true, Bool.decide_and, Bool.decide_or, gAdd_LL, gAdd_Ll, gAdd_lL, gAdd_lst, gAdd_TT, map_sh_fz, map_fz_shL, List.length_map, gEq_bool, eq_self, forO_nil, forO_cons, lcR_nil, rng1R_ok, rng2R_ok])
local macro_rules | `(tactic| get_elem_tactic_trivial) => `(tactic| simp only [fz_tup, ↓XR.bind_ok, ↓XR.bind_exc, ↓OX.bind_next, ↓OX.bind_ret, ↓OX.bind_exc, XR.bind_ok, XR.bind_exc, XR.of_ok, XR.of_exc, OX.bind_next, OX.bind_ret, OX.bind_exc, OX.of_ok, OX.of_exc, OX.lift_next, OX.lift_ret, OX.lift_exc, OX.fin_next, OX.fin_ret, OX.fin_exc, forX_nil, forX_cons, tryX_next, tryX_ret, andX_b, orX_b, mkX_ok, mkX_exc, fz_shL, itR_shL, ownR_shL, dLenP_l, dLenP_t, gIsiP_ll, gIsiP_tt, gIsiP_tl, gIsiP_lt, raiseO_s, raiseKO_s, tryO_next, tryO_ret, tryO_stk, gSubO_eq, orP_some, ↓R.bind_ok, ↓R.bind_exc, ↓R.bind_stk, ↓O.bind_next, ↓O.bind_ret, ↓O.bind_exc, ↓O.bind_stk, R.bind_ok, R.bind_exc, R.bind_stk, O.bind_next, O.bind_ret, O.bind_exc, O.bind_stk, O.of_ok, O.of_exc, O.of_stk, O.fin_next, O.fin_ret, O.fin_exc, ofOR_some, ofPR_some, toBR_b, andR_b, orR_b, chR_b, iR_i, noX_ok, szR_lit, Option.isSome_some, Option.isSome_none, mutR_app, mutR_some, ownR_lst, ownR_dk, ownR_dt, itR_tup, itR_list, itR_lst, unT_l2, unT_l3, unT_l4, unT_l5, unT_l6, unT_l7, unL_l2, unL_l3, unL_l4, unL_l5, unL_l6, unL_l7, nd0, nd1, nd2, nd3, nd4, nd5, nd6, par2R_ok, gAdd_int, gII_ok, gI_int, gOrd_int, gEq_int, fz_sh, fz_lst, gNot_b, g1, g1_one, gi_int_none, gi_int_bool, gi_int_int, gi_int_str, gi_int_list, gi_int_tuple, gi_bool_none, gi_bool_bool, gi_bool_int, gi_bool_str, gi_bool_list, gi_bool_tuple, gi_str_none, gi_str_bool, gi_str_int, gi_str_str, gi_str_list, gi_str_tuple, gi_list_none, gi_list_bool, gi_list_int, gi_list_str, gi_list_list, gi_list_tuple, gi_tuple_none, gi_tuple_bool, gi_tuple_int, gi_tuple_str, gi_tuple_list, gi_tuple_tuple, gMax_two, mApp_ok, ownT_lst, dLen_list, dLen_tup, gSub_list, gSub_tup, gSub_lst, atI_l0, atI_l1, atI_l2, atI_l3, atI_l4, atI_l5, atI_l6, Option.map_some, dInt_b, dInt_i, dAbs_i, List.map_cons, List.map_nil, List.cons_append, List.nil_append, if_true, if_false, Bool.false_eq_true, decide_true, decide_false, Bool.false_xor, Bool.true_xor, decide_eq_true_eq, List.length_cons, List.length_nil, nl0, nl1, nl2, nl3, nl4, nl5, nl6, nl7, nl8, nl9, nl10, nl11, nl12, nl13, nl14, nl15, nl16, nl17, nl18, nl19, nl20, Nat.reduceAdd, Nat.reduceSub, Nat.reduceMul, Int.reduceLT, Int.reduceEq, Int.reduceSub, Int.reduceAdd, Int.reduceNeg, Int.reduceLE, Int.reduceMul, Int.reduceToNat, sz_le, sz_lt, Nat.reduceLeDiff, Nat.reduceLT, Bool.not_true, Bool.not_false, Bool.true_and, Bool.and_true, Bool.false_and, Bool.and_false, Bool.true_or, Bool.or_true, Bool.false_or, Bool.or_false, rite_and, rite_or, rb_and, rb_or, Bool.decide_eq_true, Bool.decide_and, Bool.decide_or, gAdd_LL, gAdd_Ll, gAdd_lL, gAdd_lst, gAdd_TT, map_sh_fz, map_fz_shL, List.length_map, gEq_bool, eq_self, forO_nil, forO_cons, lcR_nil, rng1R_ok, rng2R_ok, *])
def Odd (x : PyData) : Prop := Gd 3 x ∧ ∀ s : Ship, PyData.eqv s.d x = false
def GoodI (x : PyData) : Prop := (∃ s : Ship, x = s.d) ∨ Odd x
def Its (ds : List PyData) : Prop := ∀ x ∈ ds, GoodI x
def oL (ds : List PyData) : OV := .lst (ds.map .sh)
theorem fz_oL {ds : List PyData} : fz (oL ds) = .list ds := by
  unfold oL
  rw [fz_lst, List.map_map]
  congr 1
  exact (List.map_congr_left fun d _ => fz_sh).trans (List.map_id _)
theorem its_h (h : Hid) : Its (h.map Ship.d) := fun x hx => by
  obtain ⟨s, _, rfl⟩ := List.mem_map.mp hx
  exact .inl ⟨s, rfl⟩
theorem Its.set {ds : List PyData} {k : Nat} {x : PyData} (h : Its ds) (hx : GoodI x) : Its (ds.set k x) := fun y hy => by
  rcases List.mem_or_eq_of_mem_set hy with hy | rfl
  · exact h y hy
  · exact hx
theorem Its.erase {ds : List PyData} {k : Nat} (h : Its ds) : Its (ds.eraseIdx k) := fun y hy => h y (List.mem_of_mem_eraseIdx hy)
theorem Its.ins {ds : List PyData} {k : Nat} {x : PyData} (h : Its ds) (hx : GoodI x) : Its (ds.take k ++ x :: ds.drop k) := fun y hy => by
  rcases List.mem_append.mp hy with hy | hy
  · exact h y (List.mem_of_mem_take hy)
  · rcases List.mem_cons.mp hy with rfl | hy
    · exact hx
    · exact h y (List.mem_of_mem_drop hy)
theorem setR_oL {ds : List PyData} {k : Nat} {o : OV} {x : PyData} (hk : k < ds.length) (hx : setO (oL ds) (.int (k : Nat)) o = setO (oL ds) (.int (k : Nat)) (.sh x)) : setR (oL ds) (.sh (.int (k : Nat))) o = .ok (oL (ds.set k x)) := by
  unfold setR
  rw [fz_sh, hx]
  unfold oL setO
  simp only [List.length_map, ixN_of hk, Option.map_some]
  rw [← List.map_set]
theorem setR_sh {ds : List PyData} {k : Nat} {x : PyData} (hk : k < ds.length) : setR (oL ds) (.sh (.int (k : Nat))) (.sh x) = .ok (oL (ds.set k x)) := setR_oL hk rfl
theorem sub_oL {ds : List PyData} {k : Nat} {x : PyData} (hx : ds[k]? = some x) : gSubO (oL ds) (.int (k : Nat)) = some x := by
  have hk : k < ds.length := (List.getElem?_eq_some_iff.mp hx).1
  have h1 : gSubD (fz (oL ds)) (.int (k : Nat)) = some x := by
    rw [fz_oL]
    exact atI_nat hx
  have h2 : subS (oL ds) (.int (k : Nat)) = some x := by
    unfold subS subO oL
    simp [ixN_of hk, hx]
  rw [gSubO_eq, h2]
  unfold gSubP
  rw [h1]
  simp only
  by_cases c : Ev.scal x = true
  · rw [if_pos c, orP_some]
  · rw [if_neg c]; rfl
theorem d_items (s : Ship) : s.d = .tuple [.int s.r, .int s.c, .str (wayS s.al), .int (s.n : Nat)] := rfl
theorem odd_ok {x : PyData} (g : Gd 3 x) (h : ∀ as, x ≠ .tuple as) : Odd x := ⟨g, fun s => by
  unfold Ship.d
  cases x with
  | tuple as => exact (h as rfl).elim
  | _ => simp [PyData.eqv]⟩
theorem eqvAll_len : ∀ {as bs : List PyData}, PyData.eqvAll as bs = true → as.length = bs.length
  | [], [], _ => rfl
  | [], _ :: _, h => by unfold PyData.eqvAll at h; cases h
  | _ :: _, [], h => by unfold PyData.eqvAll at h; cases h
  | a :: as, b :: bs, h => by
    unfold PyData.eqvAll at h
    have := eqvAll_len (Bool.and_eq_true _ _ ▸ h).2
    rw [List.length_cons, List.length_cons, this]
theorem odd_len {as : List PyData} (g : Gd 3 (.tuple as)) (h : as.length ≠ 4) : Odd (.tuple as) := ⟨g, fun s => by
  refine Bool.eq_false_iff.mpr fun e => h ?_
  unfold Ship.d PyData.eqv at e
  exact (eqvAll_len e).symm⟩
def RevD : OV := .dk [(.inr "along", .sh (.str "down")), (.inr "down", .sh (.str "along"))]
theorem rev_q : dictR [(.sh (.str "along"), .sh (.str "down")), (.sh (.str "down"), .sh (.str "along"))] = .ok RevD := by
  unfold dictR
  have : keysP [(.sh (.str "along"), .sh (.str "down")), (.sh (.str "down"), .sh (.str "along"))] = some [(.inr "along", .sh (.str "down")), (.inr "down", .sh (.str "along"))] := rfl
  rw [this]
  simp only
  rw [if_pos (by decide)]
  rfl
theorem rev_s (b : Bool) : Ev.gSub RevD (.sh (.str (wayS b))) = some (.sh (.str (wayS (!b)))) := by cases b <;> rfl
theorem map_erase {α β : Type} (f : α → β) : ∀ (l : List α) (k : Nat), (l.map f).eraseIdx k = (l.eraseIdx k).map f
  | [], _ => by simp
  | x :: l, 0 => by simp
  | x :: l, k + 1 => by simp [map_erase f l k]
theorem pop_b {ds : List PyData} {a : Nat} (ha : a < ds.length) (hl : ds.length < 1000) : 0 ≤ ((a : Nat) : Int) ∧ ((a : Nat) : Int) < 2 ^ 63 := by omega
theorem s0 {ds : List PyData} {a : Nat} {x : PyData} (es : ds[a]? = some x) : (ds.map OV.sh)[a]? = some (.sh x) := by rw [List.getElem?_map, es]; rfl
def popP (os : List OV) (a : Int) : Option (OV × OV) := match ixN os.length a with
    | some k => match os[k]? with
      | some (.sh d) => some (.lst (os.eraseIdx k), .sh d)
      | _ => none
    | none => none
theorem pop_0 {ds : List OV} {a : Nat} (h : 0 ≤ ((a : Nat) : Int) ∧ ((a : Nat) : Int) < 2 ^ 63) : mPopAt (.lst ds) [.sh (.int (a : Nat))] = popP ds (a : Nat) := by
  unfold mPopAt
  exact if_pos h
theorem s1 {ds : List OV} {a : Nat} {x : PyData} (ha : a < ds.length) (es : ds[a]? = some (.sh x)) : popP ds (a : Nat) = some (.lst (ds.eraseIdx a), .sh x) := by
  unfold popP
  rw [ixN_of ha]
  simp only [es]
theorem s2 {ds : List PyData} {a : Nat} {x : PyData} (ha : a < ds.length) (es : ds[a]? = some x) (hl : ds.length < 1000) : mPopAt (oL ds) [.sh (.int (a : Nat))] = some (oL (ds.eraseIdx a), .sh x) := by
  have h1 := pop_0 (ds := ds.map OV.sh) (pop_b ha hl)
  rw [s1 (by rw [List.length_map]; exact ha) (s0 es), map_erase] at h1
  exact h1
theorem mutR_of {g : OV → List OV → Option (OV × OV)} {o : OV} {os : List OV} {r : OV × OV} (h : g o os = some r) : mutR g o os = .ok r := by
  unfold mutR
  rw [h]
theorem pop_q {ds : List PyData} {a : Nat} {x : PyData} (ha : a < ds.length) (es : ds[a]? = some x) (hl : ds.length < 1000) : mutR mPopAt (oL ds) [.sh (.int (a : Nat))] = .ok (oL (ds.eraseIdx a), .sh x) := by
  exact mutR_of (s2 ha es hl)
theorem t1 {ds : List PyData} (hl : ds.length < 1000) : (ds.map OV.sh).length < sizeLine := by rw [List.length_map, sizeLine_eq]; omega
theorem t2 {ds : List PyData} : (ds.map OV.sh).all (fun x => match x with | .sh _ => true | _ => false) = true := by rw [List.all_map]; exact List.all_eq_true.mpr fun _ _ => rfl
theorem t3 {ds : List PyData} {a : Nat} (ha : a < ds.length) (hl : ds.length < 1000) : (a : Int) < 2 ^ 63 := by omega
theorem t4 {ds : List PyData} {a : Nat} {x : PyData} (z : (ds.map OV.sh).length < sizeLine ∧ (0:Int) ≤ (a:Nat) ∧ (a : Int) < 2 ^ 63 ∧ (ds.map OV.sh).all (fun x => match x with | .sh _ => true | _ => false) = true) : mIns (.lst (ds.map OV.sh)) [.sh (.int (a : Nat)), .sh x] = some (.lst ((ds.map .sh).take a ++ .sh x :: (ds.map .sh).drop a), .sh .none) := if_pos z
theorem t5 {ds : List PyData} {a : Nat} {x : PyData} : (ds.map OV.sh).take a ++ OV.sh x :: (ds.map OV.sh).drop a = (ds.take a ++ x :: ds.drop a).map OV.sh := by rw [List.map_append, List.map_cons, List.map_take, List.map_drop]
theorem t6 {ds : List PyData} {a : Nat} {x : PyData} (z : (ds.map OV.sh).length < sizeLine ∧ (0:Int) ≤ (a:Nat) ∧ (a : Int) < 2 ^ 63 ∧ (ds.map OV.sh).all (fun x => match x with | .sh _ => true | _ => false) = true) : mIns (oL ds) [.sh (.int (a : Nat)), .sh x] = some (oL (ds.take a ++ x :: ds.drop a), .sh .none) := by
  have := t4 (x := x) z
  rw [t5] at this
  exact this
theorem t7 {ds : List PyData} {a : Nat} {x : PyData} (ha : a < ds.length) (hl : ds.length < 1000) : (ds.map OV.sh).length < sizeLine ∧ (0:Int) ≤ (a:Nat) ∧ (a : Int) < 2 ^ 63 ∧ (ds.map OV.sh).all (fun x => match x with | .sh _ => true | _ => false) = true := ⟨t1 hl, by omega, t3 ha hl, t2⟩
theorem ins_q {ds : List PyData} {a : Nat} {x : PyData} (ha : a < ds.length) (hl : ds.length < 1000) : mutR mIns (oL ds) [.sh (.int (a : Nat)), .sh x] = .ok (oL (ds.take a ++ x :: ds.drop a), .sh .none) := by
  have e := t6 (x := x) (t7 (x := x) ha hl)
  unfold mutR
  rw [e]
theorem modN (i : Int) {n : Nat} (h : 0 < n) : ∃ a : Nat, a < n ∧ i % (n : Nat) = (a : Nat) := by
  have p1 := Int.emod_nonneg i (show (n : Int) ≠ 0 by omega)
  have p2 := Int.emod_lt_of_pos i (show (0 : Int) < n by omega)
  exact ⟨(i % (n : Nat)).toNat, by omega, by omega⟩
theorem near_q (cell : Int) {R C : Nat} (hR : 1 ≤ R) (hC : 1 ≤ C) {h : Hid} (h1 : 1 ≤ h.length) (h3 : h.length ≤ 3) : ∃ o, q__law_near [.int cell, cD (R, C), hD h] = .ok o ∧ ((∃ ds, fz o = .tuple ds ∧ Its ds ∧ ds.length ≤ 4) ∨ fz o = .list (h.map Ship.d)) := by
  obtain ⟨xs, hd, hx⟩ := drawn_q cell [9, 4, 4, 9, 9, 5, 8] (by decide) (by decide)
  obtain ⟨way, at0, oth, row, col, len, odd, rfl, w1, a1, o1, r1, c1, l1, d1⟩ := drawn7 hx
  clear hx
  have i0 := its_h h
  generalize hds : h.map Ship.d = ds at *
  have hn : ds.length = h.length := by rw [← hds, List.length_map]
  have dl : dList (hD h) = some (oL ds) := by
    show dList (.tuple (h.map Ship.d)) = _
    rw [hds]; rfl
  obtain ⟨a, ha, ea⟩ : ∃ a : Nat, a < ds.length ∧ at0 % (ds.length : Nat) = (a : Nat) := modN at0 (by omega)
  obtain ⟨b, hb, eb⟩ : ∃ b : Nat, b < ds.length ∧ oth % (ds.length : Nat) = (b : Nat) := modN oth (by omega)
  have q0 : (0 : Int) < ((ds.length : Nat) : Int) := by omega
  have ga : gModI (.sh (.int at0)) (.sh (.int ((ds.length : Nat) : Int))) = some (.sh (.int (a : Nat))) := by rw [← ea]; exact gII_ok (decide_eq_true q0)
  have gb : gModI (.sh (.int oth)) (.sh (.int ((ds.length : Nat) : Int))) = some (.sh (.int (b : Nat))) := by rw [← eb]; exact gII_ok (decide_eq_true q0)
  have ln : dLenP (fz (oL ds)) = some (.int (ds.length : Nat)) := by rw [fz_oL]; rfl
  obtain ⟨s, hs, es⟩ : ∃ s : Ship, s ∈ h ∧ ds[a]? = some s.d := by
    have : a < h.length := by omega
    exact ⟨h[a], List.getElem_mem _, by rw [← hds, List.getElem?_map, List.getElem?_eq_getElem this]; rfl⟩
  obtain ⟨t, ht, et⟩ : ∃ s : Ship, s ∈ h ∧ ds[b]? = some s.d := by
    have : b < h.length := by omega
    exact ⟨h[b], List.getElem_mem _, by rw [← hds, List.getElem?_map, List.getElem?_eq_getElem this]; rfl⟩
  have sa : orP (gSubP (.list ds) (.int (a : Nat))) (subS (oL ds) (.int (a : Nat))) = some s.d := by have := sub_oL es; rwa [gSubO_eq, fz_oL] at this
  have sb : orP (gSubP (.list ds) (.int (b : Nat))) (subS (oL ds) (.int (b : Nat))) = some t.d := by have := sub_oL et; rwa [gSubO_eq, fz_oL] at this
  have st := fun x => setR_sh (x := x) ha
  have stb := fun x y => setR_sh (ds := ds.set a x) (k := b) (x := y) (by rw [List.length_set]; exact hb)
  have dT : ∀ es : List PyData, dTuple (.list es) = some (.sh (.tuple es)) := fun _ => rfl
  have b2 : Ev.gSub (.sh s.d) (.sh (.int 2)) = some (.sh (.str (wayS s.al))) := rfl
  have b3 : Ev.gSub (.sh s.d) (.sh (.int 3)) = some (.sh (.int (s.n : Nat))) := rfl
  have c2 : gSl (.sh s.d) (some 2) none = some (.sh (.tuple [.str (wayS s.al), .int (s.n : Nat)])) := rfl
  have c0 : gSl (.sh s.d) none (some 2) = some (.sh (.tuple [.int s.r, .int s.c])) := rfl
  have c3 : gSl (.sh s.d) none (some 3) = some (.sh (.tuple [.int s.r, .int s.c, .str (wayS s.al)])) := rfl
  have k2 : ∀ a b c d : PyData, gAdd (.sh (.tuple [a, b])) (.sh (.tuple [c, d])) = some (.sh (.tuple [a, b, c, d])) := fun a b c d => gAdd_TT (Nat.le_of_ble_eq_true rfl)
  have k3 : ∀ a b c d : PyData, gAdd (.sh (.tuple [a, b, c])) (.sh (.tuple [d])) = some (.sh (.tuple [a, b, c, d])) := fun a b c d => gAdd_TT (Nat.le_of_ble_eq_true rfl)
  have k4 : ∀ d : PyData, gAdd (.sh s.d) (.sh (.tuple [d])) = some (.sh (.tuple [.int s.r, .int s.c, .str (wayS s.al), .int (s.n : Nat), d])) := fun d => gAdd_TT (Nat.le_of_ble_eq_true rfl)
  have n1 : ∀ i : Int, gAdd (.sh (.int 1)) (.sh (.int i)) = some (.sh (.int (1 + i))) := fun i => rfl
  have cg0 : Ev.gSub (.sh (cD (R, C))) (.sh (.int 0)) = some (.sh (.int (R : Nat))) := rfl
  have cg1 : Ev.gSub (.sh (cD (R, C))) (.sh (.int 1)) = some (.sh (.int (C : Nat))) := rfl
  have gR : gModI (.sh (.int row)) (.sh (.int (R : Nat))) = some (.sh (.int (row % (R : Nat)))) := gII_ok (decide_eq_true (by omega))
  have gC : gModI (.sh (.int col)) (.sh (.int (C : Nat))) = some (.sh (.int (col % (C : Nat)))) := gII_ok (decide_eq_true (by omega))
  have ow : ownR "list" (oL ds) = .ok () := rfl
  have pop := pop_q ha es (by omega)
  have ins := fun x => ins_q (x := x) ha (by omega)
  have rq := rev_q
  have rs := rev_s s.al
  have fzo : ∀ es : List PyData, fz (oL es) = .list es := fun es => fz_oL
  have dl2 : dList s.d = some (oL [.int s.r, .int s.c, .str (wayS s.al), .int (s.n : Nat)]) := rfl
  have g0 : nd [PyData.int way, .int at0, .int oth, .int row, .int col, .int len, .int odd] 0 = .int way := rfl
  have hl4 : ds.length ≤ 3 := by omega
  replace hd : q__law_drawn [.int cell, .list [.int 9, .int 4, .int 4, .int 9, .int 9, .int 5, .int 8]] = .ok (shL PyData.int [way, at0, oth, row, col, len, odd]) := hd
  clear hds hn h1 h3 hs ht es et ea eb q0
  obtain rfl | rfl | rfl | rfl | rfl | rfl | rfl | rfl | rfl : way = 0 ∨ way = 1 ∨ way = 2 ∨ way = 3 ∨ way = 4 ∨ way = 5 ∨ way = 6 ∨ way = 7 ∨ way = 8 := by omega
  · refine ⟨.sh (.tuple ((ds.set a t.d).set b s.d)), ?_, .inl ⟨_, fz_sh, (i0.set (.inl ⟨t, rfl⟩)).set (.inl ⟨s, rfl⟩), by rw [List.length_set, List.length_set]; omega⟩⟩
    unfold q__law_near q__law_near_0 swR
    get_elem_tactic_trivial
  · refine ⟨.sh (.tuple (ds.set a (.tuple [.int (row % (R : Nat)), .int (col % (C : Nat)), .str (wayS s.al), .int (s.n : Nat)]))), ?_, .inl ⟨_, fz_sh, i0.set (.inl ⟨⟨row % (R : Nat), col % (C : Nat), s.al, s.n⟩, rfl⟩), by rw [List.length_set]; omega⟩⟩
    unfold q__law_near q__law_near_0
    get_elem_tactic_trivial
  · refine ⟨.sh (.tuple (ds.set a (.tuple [.int s.r, .int s.c, .str (wayS (!s.al)), .int (s.n : Nat)]))), ?_, .inl ⟨_, fz_sh, i0.set (.inl ⟨⟨s.r, s.c, !s.al, s.n⟩, rfl⟩), by rw [List.length_set]; omega⟩⟩
    unfold q__law_near q__law_near_0
    get_elem_tactic_trivial
  · refine ⟨.sh (.tuple (ds.set a t.d)), ?_, .inl ⟨_, fz_sh, i0.set (.inl ⟨t, rfl⟩), by rw [List.length_set]; omega⟩⟩
    unfold q__law_near q__law_near_0
    get_elem_tactic_trivial
  · refine ⟨.sh (.tuple (ds.eraseIdx a)), ?_, .inl ⟨_, fz_sh, i0.erase, Nat.le_trans (List.length_eraseIdx_le ..) (by omega)⟩⟩
    unfold q__law_near q__law_near_0
    get_elem_tactic_trivial
  · refine ⟨.sh (.tuple (ds.take a ++ t.d :: ds.drop a)), ?_, .inl ⟨_, fz_sh, i0.ins (.inl ⟨t, rfl⟩), by rw [List.length_append, List.length_cons, List.length_take, List.length_drop]; omega⟩⟩
    unfold q__law_near q__law_near_0
    get_elem_tactic_trivial
  · obtain ⟨len, rfl⟩ := nat_of l1.1
    refine ⟨.sh (.tuple (ds.set a (.tuple [.int s.r, .int s.c, .str (wayS s.al), .int (1 + (len : Nat))]))), ?_, .inl ⟨_, fz_sh, i0.set (.inl ⟨⟨s.r, s.c, s.al, 1 + len⟩, by rw [d_items]; simp⟩), by rw [List.length_set]; omega⟩⟩
    unfold q__law_near q__law_near_0
    get_elem_tactic_trivial
  · have fin : ∀ x : PyData, GoodI x → q__law_near [.int cell, cD (R, C), hD h] = .ok (.sh (.tuple (ds.set a x))) → ∃ o, q__law_near [.int cell, cD (R, C), hD h] = .ok o ∧ ((∃ ds, fz o = .tuple ds ∧ Its ds ∧ ds.length ≤ 4) ∨ fz o = .list ds) := fun x g h => ⟨_, h, .inl ⟨_, fz_sh, i0.set g, by rw [List.length_set]; omega⟩⟩
    have a7 : ∀ x0 x1 x2 x3 x4 x5 x6 x7 : PyData, atI [x0, x1, x2, x3, x4, x5, x6, x7] 7 = some x7 := fun _ _ _ _ _ _ _ _ => atI_nat (j := 7) rfl
    have ga0 : ∀ x, Gd 3 (.int x) := fun x => (Gd.int x).le (by decide)
    have gs0 : Gd 3 (.str (wayS s.al)) := (Gd.str (str_ok s.al)).le (by decide)
    have gst : ∀ as, (∀ y ∈ as, Gd 0 y) → Gd 3 (.tuple as) := fun as h => (Gd.tup h).le (by decide)
    obtain rfl | rfl | rfl | rfl | rfl | rfl | rfl | rfl : odd = 0 ∨ odd = 1 ∨ odd = 2 ∨ odd = 3 ∨ odd = 4 ∨ odd = 5 ∨ odd = 6 ∨ odd = 7 := by omega
    · refine fin .none (.inr (odd_ok (Gd.none.le (by decide)) fun _ e => by cases e)) ?_
      unfold q__law_near q__law_near_0
      get_elem_tactic_trivial
    · refine fin (.int 7) (.inr (odd_ok (ga0 7) fun _ e => by cases e)) ?_
      unfold q__law_near q__law_near_0
      get_elem_tactic_trivial
    · refine fin (.list [.int s.r, .int s.c, .str (wayS s.al), .int (s.n : Nat)]) (.inr (odd_ok ((Gd.list (n := 0) fun y hy => by
        simp only [List.mem_cons, List.not_mem_nil, or_false] at hy
        rcases hy with rfl | rfl | rfl | rfl
        · exact Gd.int _
        · exact Gd.int _
        · exact Gd.str (str_ok s.al)
        · exact Gd.int _).le (by decide)) fun _ e => by cases e)) ?_
      unfold q__law_near q__law_near_0
      get_elem_tactic_trivial
    · refine fin (.tuple [.int s.r, .int s.c, .str (wayS s.al)]) (.inr (odd_len (gst _ fun y hy => by
        simp only [List.mem_cons, List.not_mem_nil, or_false] at hy
        rcases hy with rfl | rfl | rfl
        · exact Gd.int _
        · exact Gd.int _
        · exact Gd.str (str_ok s.al)) (by simp))) ?_
      unfold q__law_near q__law_near_0
      get_elem_tactic_trivial
    · refine fin (.str "A") (.inr (odd_ok ((Gd.str (by decide +kernel)).le (by decide)) fun _ e => by cases e)) ?_
      unfold q__law_near q__law_near_0
      get_elem_tactic_trivial
    · refine fin (.tuple []) (.inr (odd_len (gst _ fun y hy => by simp at hy) (by decide))) ?_
      unfold q__law_near q__law_near_0
      get_elem_tactic_trivial
    · refine fin (.bool true) (.inr (odd_ok ((Gd.bool true).le (by decide)) fun _ e => by cases e)) ?_
      unfold q__law_near q__law_near_0
      get_elem_tactic_trivial
    · refine fin (.tuple [.int s.r, .int s.c, .str (wayS s.al), .int (s.n : Nat), .int 1]) (.inr (odd_len (gst _ fun y hy => by
        simp only [List.mem_cons, List.not_mem_nil, or_false] at hy
        rcases hy with rfl | rfl | rfl | rfl | rfl
        · exact Gd.int _
        · exact Gd.int _
        · exact Gd.str (str_ok s.al)
        · exact Gd.int _
        · exact Gd.int _) (by simp))) ?_
      unfold q__law_near q__law_near_0
      get_elem_tactic_trivial
  · refine ⟨oL ds, ?_, .inr fz_oL⟩
    unfold q__law_near q__law_near_0
    get_elem_tactic_trivial
structure Fair (A : List Hid) (d : PyData) : Prop where
  gd : Gd 20 d
  eq : ∀ h ∈ A, PyData.eqv (hD h) d = true → d = hD h
theorem Fair.flat {A : List Hid} {d : PyData} (g : Gd 20 d) (h : ∀ ds, d ≠ .tuple ds) : Fair A d := ⟨g, fun k _ e => by
  exfalso
  unfold hD at e
  cases d with
  | tuple ds => exact h ds rfl
  | _ => simp [PyData.eqv] at e⟩
theorem Fair.hid {A : List Hid} (h : Hid) : Fair A (hD h) where
  gd := ⟨EqE.hid.lay h, Nat.le_trans (EqE.hid.dep h) (by decide)⟩
  eq := fun k _ e => by rw [(EqE.hid.eqv _ _).mp e]
theorem its_eq : ∀ {h : Hid} {ds : List PyData}, Its ds → PyData.eqvAll (h.map Ship.d) ds = true → ds = h.map Ship.d
  | [], [], _, _ => rfl
  | [], _ :: _, _, e => by have := eqvAll_len e; simp at this
  | _ :: _, [], _, e => by have := eqvAll_len e; simp at this
  | s :: h, d :: ds, i, e => by
    rw [List.map_cons] at e
    unfold PyData.eqvAll at e
    obtain ⟨e1, e2⟩ := Bool.and_eq_true _ _ ▸ e
    have r := its_eq (fun x hx => i x (List.mem_cons_of_mem _ hx)) e2
    rw [List.map_cons, r]
    congr 1
    rcases i d List.mem_cons_self with ⟨t, rfl⟩ | o
    · rw [(EqE.ship.eqv _ _).mp e1]
    · rw [o.2 s] at e1; cases e1
theorem Fair.its {A : List Hid} {ds : List PyData} (i : Its ds) : Fair A (.tuple ds) where
  gd := (Gd.tup (n := 3) fun x hx => by
    rcases i x hx with ⟨s, rfl⟩ | o
    · exact ⟨EqE.ship.lay s, Nat.le_trans (EqE.ship.dep s) (by decide)⟩
    · exact o.1).le (by decide)
  eq := fun h _ e => by
    unfold hD PyData.eqv at e
    rw [its_eq i e]
    rfl
theorem in_fair {R C : Nat} {u : Rule} {fleet : List Nat} (hf : ∀ l ∈ fleet, 1 ≤ l ∧ l ≤ 8) {d : PyData} (f : Fair (allH R C u fleet) d) : Ev.gIn false (.sh d) (.sh (.list ((allH R C u fleet).map hD))) = some (.sh (.bool (hidB R C u fleet d))) := by
  unfold Ev.gIn
  rw [fz_sh, fz_sh]
  simp only []
  rw [f.gd.shaped (by decide), EqE.hid.list.shaped (by decide) (allH R C u fleet), if_pos ⟨rfl, rfl⟩, Bool.false_xor]
  congr 3
  rw [Bool.eq_iff_iff, hidB_iff hf, List.any_eq_true]
  constructor
  · rintro ⟨z, hz, e⟩
    obtain ⟨h, hh, rfl⟩ := List.mem_map.mp hz
    exact ⟨h, hh, f.eq h hh e⟩
  · rintro ⟨h, hh, rfl⟩
    exact ⟨hD h, List.mem_map_of_mem hh, (EqE.hid.eqv _ _).mpr rfl⟩
section
variable {R C : Nat} {u : Rule} {fleet : List Nat} {t204 : List PyData}
theorem thing_turn (hf : ∀ l ∈ fleet, 1 ≤ l ∧ l ≤ 8) (hn : fleet.length ≤ 100) (h0 : nd t204 0 = cD (R, C)) (h1 : nd t204 1 = fD fleet) (h2 : nd t204 2 = u.d) (h3 : nd t204 3 = .list ((allH R C u fleet).map hD)) {d : PyData} (f : Fair (allH R C u fleet) d) :
    q_law_2 t204 d () = .next () := by
  have qd := is_hiding_q (R := R) (C := C) (u := u) hn f.gd (by decide)
  have gi := in_fair hf f
  have is := gIsi_sh (T := "tuple") f.gd.noD
  have hb : ∀ ds, (∀ es, ds ≠ .tuple es) → hidB R C u fleet ds = false := fun ds hd => by
    cases ds with
    | tuple es => exact (hd es rfl).elim
    | _ => rfl
  have an : ∀ X : Ev.R OV, X = .ok (.sh (.bool (hidB R C u fleet d))) → (Ev.R.bind (ofOR (gIsi "tuple" [.sh d])) fun e => andR e X) = .ok (.sh (.bool (hidB R C u fleet d))) := fun X hX => by
    rw [is]
    by_cases t : ∃ es, d = .tuple es
    · obtain ⟨es, rfl⟩ := t
      rw [hX]
      show (Ev.R.bind (.ok (.sh (.bool true))) fun e => andR e _) = _
      rw [Ev.R.bind_ok, andR_b, if_pos rfl]
    · have nt : ∀ es, d ≠ .tuple es := fun es e => t ⟨es, e⟩
      rw [hb d nt]
      have : isiB "tuple" d = false := by
        cases d with
        | tuple es => exact (nt es rfl).elim
        | _ => rfl
      rw [this, ofOR_some, Ev.R.bind_ok, andR_b, if_neg (by simp)]
  have an := an (ofOR (Ev.gIn false (.sh d) (.sh (.list ((allH R C u fleet).map hD))))) (by rw [gi, ofOR_some])
  generalize (allH R C u fleet).map hD = AH at *
  have ib : ∀ z, isiB "bool" (.bool z) = true := fun _ => rfl
  generalize hidB R C u fleet d = z at *
  clear is gi hb f hf hn
  cases z with
  | true => unfold q_law_2; get_elem_tactic_trivial
  | false => unfold q_law_2; get_elem_tactic_trivial
theorem no_turn (hn : fleet.length ≤ 100) (h0 : nd t204 0 = cD (R, C)) (h1 : nd t204 1 = fD fleet) (h2 : nd t204 2 = u.d) {d : PyData} (g : Gd 20 d) (hd : hidB R C u fleet d = false) : q_law_1 t204 d () = .next () := by
  have qd := is_hiding_q (R := R) (C := C) (u := u) hn g (by decide)
  rw [hd] at qd
  have ib : gIsB true (.sh (.bool false)) (.sh (.bool false)) = some (.sh (.bool false)) := rfl
  clear hd g hn
  unfold q_law_1
  get_elem_tactic_trivial
end
def shipN (s : Ship) : NestedKey := .tup [.num s.r, .num s.c, .text (wayS s.al), .num (s.n : Nat)]
def hidN (h : Hid) : NestedKey := .tup (h.map shipN)
theorem nx_ship (s : Ship) : nxOf s.d = some (shipN s) := by
  rw [d_items]
  simp [nxOf, nxOfs, shipN]
theorem nx_ships : ∀ h : Hid, nxOfs (h.map Ship.d) = some (h.map shipN)
  | [] => by simp [nxOfs]
  | s :: h => by rw [List.map_cons, nxOfs, nx_ship, nx_ships h]; rfl
theorem nx_hid {h : Hid} (n : h ≠ []) : nxOf (hD h) = some (hidN h) := by
  unfold hD
  rw [nxOf, if_neg, nx_ships]
  · rfl
  · cases h with
    | nil => exact absurd rfl n
    | cons s h => rw [List.map_cons, List.all_cons, d_items]; simp
theorem dep_ships : ∀ h : Hid, NestedKey.depthAll (h.map shipN) ≤ 1
  | [] => by simp [NestedKey.depthAll]
  | s :: h => by
    have := dep_ships h
    rw [List.map_cons, NestedKey.depthAll]
    have e : NestedKey.depth (shipN s) = 1 := by simp [shipN, NestedKey.depth, NestedKey.depthAll]
    omega
theorem dep_hid (h : Hid) : (hidN h).depth ≤ 8 := by
  have := dep_ships h
  unfold hidN
  rw [NestedKey.depth]
  omega
theorem shipN_inj {s t : Ship} (e : shipN s = shipN t) : s = t := by
  unfold shipN at e
  injection e with e
  injection e with e1 e
  injection e with e2 e
  injection e with e3 e
  injection e with e4 _
  injection e1 with e1
  injection e2 with e2
  injection e3 with e3
  injection e4 with e4
  obtain ⟨r, c, al, n⟩ := s
  obtain ⟨r', c', al', n'⟩ := t
  have wi : ∀ a b : Bool, wayS a = wayS b → a = b := by decide +kernel
  have : al = al' := wi _ _ e3
  simp only [Ship.mk.injEq]
  simp only at e1 e2 e4
  exact ⟨e1, e2, this, by omega⟩
theorem hidN_inj {h k : Hid} (e : hidN h = hidN k) : h = k := by
  unfold hidN at e
  injection e with e
  induction h generalizing k with
  | nil => cases k with
    | nil => rfl
    | cons _ _ => simp at e
  | cons s h ih => cases k with
    | nil => simp at e
    | cons t k =>
      rw [List.map_cons, List.map_cons] at e
      injection e with e1 e2
      rw [shipN_inj e1, ih e2]
theorem pairs_hid : ∀ {A : List Hid}, (∀ h ∈ A, h ≠ []) → pairsX (A.map fun h => .tuple [hD h, .bool true]) = some (A.map hidN)
  | [], _ => rfl
  | h :: A, n => by
    have ih := pairs_hid (A := A) fun k hk => n k (List.mem_cons_of_mem _ hk)
    have e := nx_hid (n h List.mem_cons_self)
    have d := dep_hid h
    rw [List.map_cons, List.map_cons]
    unfold pairsX
    rw [e, ih]
    unfold hidN at d ⊢
    simp only
    rw [if_pos d]
theorem dict_hid {A : List Hid} (n : ∀ h ∈ A, h ≠ []) (nd : A.Nodup) : dictN (.list (A.map fun h => .tuple [hD h, .bool true])) = some A.length := by
  unfold dictN
  simp only
  rw [pairs_hid n]
  simp only
  have : (A.map hidN).Nodup := by
    rw [List.nodup_iff_pairwise_ne] at nd ⊢
    exact List.pairwise_map.mpr (nd.imp fun h e => h (hidN_inj e))
  rw [if_pos this, List.length_map]
theorem addO {a b : OV} {xs ys : List PyData} (ha : fz a = .list xs) (hb : fz b = .list ys) (h : xs.length + ys.length ≤ 1000000) : gAdd a b = some (.lst ((xs ++ ys).map .sh)) := by
  have := gAdd_LL (xs := xs) (ys := ys) (by rw [sizeLine_eq]; omega)
  unfold gAdd at this ⊢
  rw [ha, hb]
  rw [fz_sh, fz_sh] at this
  exact this
theorem hid_no {R C : Nat} {u : Rule} {fleet : List Nat} (hf : ∀ l ∈ fleet, 1 ≤ l ∧ l ≤ 8) {d : PyData} (h : ∀ k ∈ allH R C u fleet, d ≠ hD k) : hidB R C u fleet d = false := by
  refine Bool.eq_false_iff.mpr fun e => ?_
  obtain ⟨k, hk, q⟩ := (hidB_iff hf).mp e
  exact h k hk q
theorem hD_cons {s : Ship} {k : Hid} : hD (s :: k) = .tuple (s.d :: k.map Ship.d) := rfl
theorem odd_no {d : PyData} (n : NoSh d) {k : Hid} (hk : k ≠ []) : d ≠ hD k := fun e => by
  cases k with
  | nil => exact hk rfl
  | cons s k =>
    rcases n s.d _ e with g | ⟨x, y, q⟩ | ⟨l, q⟩
    · have := g.2
      rw [d_items, PyData.depth] at this
      omega
    · rw [d_items] at q; simp at q
    · rw [d_items] at q; simp at q
theorem flat_no {ds : List PyData} (h : ∀ x ∈ ds, ∀ s : Ship, x ≠ s.d) {k : Hid} (hk : k ≠ []) : PyData.tuple ds ≠ hD k := fun e => by
  cases k with
  | nil => exact hk rfl
  | cons s k =>
    rw [hD_cons] at e
    injection e with e
    exact h s.d (by rw [e]; exact List.mem_cons_self) s rfl
theorem cell_turn (cell : Int) (μ : List SO) : ∃ n, q_law_3 (.int cell) () μ = .next () (μ ++ [.dl n]) := by
  obtain ⟨R, C, fleet, u, g, ne, hq⟩ := played_q cell
  have pS : 0 < (allH R C u fleet).length := List.length_pos_iff.mpr ne
  have s1 := stir_q (cell := cell) (k := 200) (by decide) (by decide)
  obtain ⟨d1, hd1, m1⟩ := mod_at (xs := (allH R C u fleet).map hD) (i := stir cell 200) (List.length_map ..) pS
  obtain ⟨h, hh, rfl⟩ := List.mem_map.mp hd1
  have hf : ∀ l ∈ fleet, 1 ≤ l ∧ l ≤ 8 := fun l hl => by have := g.fl l hl; omega
  have hn : fleet.length ≤ 100 := by have := g.f3; omega
  have hlen : ∀ k ∈ allH R C u fleet, k.length = fleet.length := fun k hk => by
    have := ((mem_allH fleet (fun l hl => (hf l hl).1) k).mp hk).1
    rw [← this, List.length_map]
  have f0 : 0 < fleet.length := List.length_pos_iff.mpr g.f1
  have hA : ∀ k ∈ allH R C u fleet, k ≠ [] := fun k hk e => by
    have := hlen k hk
    rw [e] at this
    simp at this
    omega
  have hl3 : h.length ≤ 3 := by rw [hlen h hh]; exact g.f3
  have hl1 : 1 ≤ h.length := by rw [hlen h hh]; exact f0
  obtain ⟨o1, q1, gd1, ns1⟩ := odd_q2 cell
  obtain ⟨o2, q2, gd2, ns2⟩ := odd_q2 (cell + 2)
  have dn := dict_hid hA (allH_nodup fleet)
  have Nq := fun k : Nat => near_q (cell + k) (R := R) (C := C) g.r1 g.c1 hl1 hl3
  obtain ⟨N, hN⟩ : ∃ N : Nat → OV, ∀ k : Nat, q__law_near [.int (cell + k), cD (R, C), hD h] = .ok (N k) ∧ Fair (allH R C u fleet) (fz (N k)) := by
    refine ⟨fun k => Classical.choose (Nq k), fun k => ?_⟩
    obtain ⟨p1, p2⟩ := Classical.choose_spec (Nq k)
    refine ⟨p1, ?_⟩
    rcases p2 with ⟨ds, e, i, _⟩ | e
    · rw [e]; exact .its i
    · rw [e]
      exact .flat (Gd.le (Gd.list (n := 5) fun d hd => by
        obtain ⟨s, _, rfl⟩ := List.mem_map.mp hd
        exact ⟨EqE.ship.lay s, Nat.le_trans (EqE.ship.dep s) (by decide)⟩) (by decide)) (fun ds e => by cases e)
  have hNq := fun k => (hN k).1
  have rg : rng1R (.sh (.int 12)) = .ok ((List.range 12).map fun z => .int ((z : Nat) : Int)) := rng1R_n (k := 12) (by decide)
  have lp1 : forO (hD h :: (List.range 12).map fun k => fz (N k)) (fun x s => q_law_2 [cD (R, C), fD fleet, Rule.d u, .list ((allH R C u fleet).map hD)] x s) () = .next () := forO_same fun d hd => by
    refine thing_turn hf hn rfl rfl rfl rfl ?_
    rcases List.mem_cons.mp hd with rfl | hd
    · exact .hid _
    · obtain ⟨k, _, rfl⟩ := List.mem_map.mp hd
      exact (hN k).2
  have gi : ∀ x : Int, Gd 1 (.int x) := fun x => (Gd.int x).le (by decide)
  have gh : Gd 20 (hD h) := (Fair.hid (A := []) h).gd
  have gs : ∀ s : Ship, Gd 18 s.d := fun s => ⟨EqE.ship.lay s, Nat.le_trans (EqE.ship.dep s) (by decide)⟩
  have lp2 : forO [fz o1, fz o2, fD fleet, cD (R, C), .tuple [hD h], hD (h ++ h)] (fun x s => q_law_1 [cD (R, C), fD fleet, Rule.d u, .list ((allH R C u fleet).map hD)] x s) () = .next () := forO_same fun d hd => by
    simp only [List.mem_cons, List.not_mem_nil, or_false] at hd
    rcases hd with rfl | rfl | rfl | rfl | rfl | rfl
    · exact no_turn (u := u) hn rfl rfl rfl (gd1.le (by decide)) (hid_no hf fun k hk => odd_no ns1 (hA k hk))
    · exact no_turn (u := u) hn rfl rfl rfl (gd2.le (by decide)) (hid_no hf fun k hk => odd_no ns2 (hA k hk))
    · refine no_turn (u := u) hn rfl rfl rfl ((Gd.tup (n := 1) fun x hx => ?_).le (by decide)) (hid_no hf fun k hk => flat_no (fun x hx s e => ?_) (hA k hk))
      · obtain ⟨l, _, rfl⟩ := List.mem_map.mp hx; exact gi _
      · obtain ⟨l, _, rfl⟩ := List.mem_map.mp hx; rw [d_items] at e; cases e
    · refine no_turn (u := u) hn rfl rfl rfl ((Gd.tup (n := 1) fun x hx => ?_).le (by decide)) (hid_no hf fun k hk => flat_no (fun x hx s e => ?_) (hA k hk))
      · simp only [List.mem_cons, List.not_mem_nil, or_false] at hx
        rcases hx with rfl | rfl <;> exact gi _
      · simp only [List.mem_cons, List.not_mem_nil, or_false] at hx
        rw [d_items] at e
        rcases hx with rfl | rfl <;> cases e
    · refine no_turn (u := u) hn rfl rfl rfl ((Gd.tup (n := 19) fun x hx => ?_).le (by decide)) (hid_no hf fun k hk => flat_no (fun x hx s e => ?_) (hA k hk))
      · simp only [List.mem_cons, List.not_mem_nil, or_false] at hx
        subst hx
        exact Gd.tup (n := 18) fun x hx => by
          obtain ⟨s, _, rfl⟩ := List.mem_map.mp hx
          exact gs s
      · simp only [List.mem_cons, List.not_mem_nil, or_false] at hx
        subst hx
        cases h with
        | nil => simp at hl1
        | cons t h =>
          rw [hD_cons, d_items] at e
          injection e with e
          injection e with e _
          cases e
    · refine no_turn (u := u) hn rfl rfl rfl (Fair.hid (A := []) (h ++ h)).gd (hid_no hf fun k hk e => ?_)
      have e1 : (h ++ h).length = k.length := by
        unfold hD at e
        injection e with e
        have := congrArg List.length e
        simpa using this
      rw [hlen k hk, List.length_append, hlen h hh] at e1
      omega
  refine ⟨(allH R C u fleet).length, ?_⟩
  have ad : gAdd (.sh (hD h)) (.sh (hD h)) = some (.sh (hD (h ++ h))) := by
    unfold hD
    rw [gAdd_TT (by rw [List.length_map, sizeLine_eq]; omega), List.map_append]
  have ap := addO (a := .lst [.sh (hD h)]) (b := .lst ((List.range 12).map N)) (xs := [hD h]) (ys := (List.range 12).map fun k => fz (N k)) (by rw [fz_lst, List.map_cons, fz_sh]; rfl) (by rw [fz_lst, List.map_map]; rfl) (by simp)
  have u4 : unT 4 (.tuple [cD (R, C), fD fleet, Rule.d u, .list ((allH R C u fleet).map hD)]) = .ok [cD (R, C), fD fleet, Rule.d u, .list ((allH R C u fleet).map hD)] := unT_l4
  have qS : (0 : Int) < (((allH R C u fleet).length : Nat) : Int) := by omega
  have gm : gModI (.sh (.int (stir cell 200))) (.sh (.int (((allH R C u fleet).length : Nat) : Int))) = some (.sh (.int (stir cell 200 % (((allH R C u fleet).length : Nat) : Int)))) := gII_ok (decide_eq_true qS)
  have lx : lenXR (μ ++ [.dl (allH R C u fleet).length]) (hdl μ.length) = some (.int (((allH R C u fleet).length : Nat) : Int)) := by
    unfold lenXR
    rw [objOf_hdl]
    simp
  have eq0 : gEq true (.sh (.int (((allH R C u fleet).length : Nat) : Int))) (.sh (.int (((allH R C u fleet).length : Nat) : Int))) = some (.sh (.bool false)) := by
    rw [EqE.int.eq (by decide) fz_sh fz_sh]; simp
  have lH : ((allH R C u fleet).map hD).length = (allH R C u fleet).length := List.length_map ..
  have hx : hndXR (.lst ((allH R C u fleet).map fun h => .sh (.tuple [hD h, .bool true]))) μ = .ok (.sh (hdl μ.length)) (μ ++ [.dl (allH R C u fleet).length]) := by
    unfold hndXR
    have : fz (.lst ((allH R C u fleet).map fun h => .sh (.tuple [hD h, .bool true]))) = .list ((allH R C u fleet).map fun h => .tuple [hD h, .bool true]) := by
      rw [fz_lst, List.map_map]; rfl
    rw [this, dn]
  have lc1 := fun (f : PyData → Ev.R (Option OV)) (hf : ∀ k ∈ allH R C u fleet, f (hD k) = .ok (some (.sh (.tuple [hD k, .bool true])))) => lcR_map hD (fun k => OV.sh (.tuple [hD k, .bool true])) (allH R C u fleet) hf
  have sz : ∀ x : OV, szR (allH R C u fleet).length x = .ok x := fun x => szR_ok (by have := g.all_le (u := u); rw [sizeLine_eq]; omega)
  clear ne pS hd1 hh hf hn hlen f0 hA hl3 hl1 gd1 ns1 gd2 ns2 dn Nq hN qS gi gh gs
  have gk : ∀ k : Nat, gAdd (.sh (.int cell)) (.sh (.int (k : Nat))) = some (.sh (.int (cell + (k : Nat)))) := fun _ => rfl
  have sz2 : szR 12 (OV.lst ((List.range 12).map N)) = .ok (OV.lst ((List.range 12).map N)) := szR_lit (by decide)
  have iT : itR (.sh (.list (hD h :: (List.range 12).map fun k => fz (N k)))) = .ok (hD h :: (List.range 12).map fun k => fz (N k)) := itR_list
  have fA : fz (.lst (([hD h] ++ (List.range 12).map fun k => fz (N k)).map .sh)) = .list (hD h :: (List.range 12).map fun k => fz (N k)) := fz_oL
  unfold q_law_3
  get_elem_tactic_trivial
  rw [lcR_map hD (fun k => OV.sh (.tuple [hD k, .bool true])) (allH R C u fleet) (fun k _ => rfl)]
  rw [lcR_map (fun z : Nat => PyData.int (z : Nat)) N (List.range 12) (fun k _ => by get_elem_tactic_trivial)]
  rw [Ev.R.bind_ok, List.length_map, sz, Ev.R.bind_ok, List.length_map, List.length_range, sz2]
  generalize hAH : (allH R C u fleet).map hD = AH at *
  generalize (OV.lst ((allH R C u fleet).map fun k => OV.sh (.tuple [hD k, .bool true]))) = KV at *
  generalize (allH R C u fleet).length = nA at *
  get_elem_tactic_trivial
  done
theorem cells_loop : ∀ (ms : List Int) (μ : List SO), ∃ μ', forX (ms.map PyData.int) (fun x s m => q_law_3 x s m) () μ = .next () μ'
  | [], μ => ⟨μ, rfl⟩
  | m :: ms, μ => by
    obtain ⟨n, q1⟩ := cell_turn m μ
    obtain ⟨μ2, q2⟩ := cells_loop ms (μ ++ [.dl n])
    exact ⟨μ2, by rw [List.map_cons, forX_cons, q1, OX.bind_next, q2]⟩
theorem true_ofX {m : List PyData → List SO → Rv} {q : List PyData → List SO → XR OV} (hp : jXP m q) {ds : List PyData} {o : OV} (h : ∃ μ, q ds [] = .ok o μ) : ∃ st, m ds [] = .ok o st := by
  obtain ⟨μ, h⟩ := h
  have := hp ds []
  rw [h] at this
  exact ⟨μ, this⟩
theorem law_true (ns : List Int) (h : scOk ns) : ∃ st, m_law [.list (ns.map .int)] [] = .ok (.sh (.bool true)) st := by
  obtain ⟨ms, hi, ha, hl⟩ := script_it ns 20 h.1
  obtain ⟨μ', lp⟩ := cells_loop (0 :: ms) []
  rw [List.map_cons] at lp
  have it : itR (.lst (.sh (.int 0) :: ms.map fun x => .sh (.int x))) = .ok (.int 0 :: ms.map PyData.int) := by
    have := itR_shL (e := PyData.int) (xs := 0 :: ms)
    exact this
  refine true_ofX okq_law ⟨μ', ?_⟩
  generalize (OV.lst (.sh (.int 0) :: ms.map fun x => .sh (.int x))) = LS at *
  generalize (PyData.int 0 :: ms.map PyData.int) = DS at *
  clear hl h
  unfold q_law q_law_0
  get_elem_tactic_trivial
end K03
open PySem PySem.W PySem.Calls PyProof.Rows
set_option maxRecDepth 100000
set_option maxHeartbeats 0 in
theorem PySem.Challenge.cw_fleethide_k03_what_is_a_hiding_holds : PySem.Challenge.rw_fleethide_k03_what_is_a_hiding.Holds := by
  w_on; o_law
  refine HandSHeadRun.head_any (r := K03.RW) (q := view K03.RW.prog [24]) (H := K03.hkL) (ob := K03.obL) (M := 1900) (loose := K03.looseL) (d := HandSHeadRun.topDef K03.RW.prog 24) (kwd := []) K03.obL_eq
    (by kernel_rfl) (fun s => by kernel_rfl) K03.runL (by kernel_rfl) (by kernel_rfl) (by kernel_rfl) (by rfl) (by first | assumption | decide +kernel) (by decide +kernel) ⟨rfl, rfl, rfl, rfl, rfl, by decide +kernel⟩ ?hw ?hc
  case hw => w_witness2
  case hc =>
    refine Ev.walkE (l := PySem.Challenge.rw_fleethide_k03_what_is_a_hiding) (k := 5) ⟨rfl, by decide, by decide⟩ rfl (by kernel_rfl) ?F
    intro w mg fa h Y hmg0 G
    obtain ⟨K, KX, c⟩ := Y
    have e0 : (HandSHeadRun.topDef K03.RW.prog 24).name = ("law" : PySem.Str) := by kernel_rfl
    rw [e0] at hmg0
    have T := K03.topL KX G c
    obtain ⟨fd, F⟩ := c.t.d.def_ 20 (d := K03.dd_law) rfl
    have ef := hmg0.symm.trans (He.glo_ok KX G (c.t.d.fact 20 (f := .glo "law") rfl))
    cases ef
    exact ⟨K, fd, KX, fun s u => L2.FunD.bindsA (ps := ["script"]) F (fun _ _ _ _ _ _ us hl => match us, hl with | [_], _ => rfl) s [u] rfl, fun base _ _ => Ev.law_of K03.law_true (K03.ok_law T F)⟩
